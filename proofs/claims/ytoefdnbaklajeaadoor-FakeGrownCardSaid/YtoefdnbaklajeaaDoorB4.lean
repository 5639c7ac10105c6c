/- Part 4 of what all laws of layer 8 need: a logic of programs that start goroutines, and what the functions yield. -/
import Derived.Test.YtoefdnbaklajeaaDoorB3
import Derived.ChangeArms
import Derived.Conc.Quits
import Derived.FnData
import Derived.LaidHandle
import Derived.LaidLaws
import Derived.LaidMore
import Derived.OpenShut
import Derived.SizedLaws
import Derived.Test.YtoefdnbaklajeaaDoorRows
import Derived.WideShapes
set_option linter.unusedVariables false
set_option linter.unusedSimpArgs false
namespace Go.Proofs.YtoefdnbaklajeaaDoor
open Go
set_option maxHeartbeats 1000000 in
set_option maxRecDepth 100000 in
theorem Aek {mn:Bool} {X:Frame→List Frame→Ro→Own→Cy→Prop} {ρ:Ro} {σ:Own} {m:Market} {vm:Value} (rm:Val ρ vm m):CallsH (CX mn X) 32 #[vm] ρ σ (fun w ρ' σ'=>Ro.le ρ ρ'∧σ' = σ∧∃ v0,w = (.tuple #[(iV (Aik m)),v0,(iV (Ch m))])∧Val ρ' v0 (Aje m:List Int)):=by
 refine Bh (n:=66) (args:=[vm]) [2,3,4] Tryd.func32 rfl rfl rfl rfl fun Q hret hnor=>?_
 refine w_q rfl rfl fun K1 k1=>?_
 refine Ae rfl (Eb (v:=vm) rfl fun k2=>?_)
 refine Bb (a:=m) rm fun ρ2 l2 r2=>?_
 replace rm:=Asa l2 rm
 refine l_A (iV (0)) rfl rfl ?_
 refine l_A (.slice none 0 0) rfl rfl ?_
 refine l_A (iV (0)) rfl rfl ?_
 apply Ac
 apply k1
 refine Ai fun K3 k3=>?_
 refine w_q rfl rfl fun K4 k4=>?_
 refine Ak rfl (Ax Lj rfl r2) fun v5 r5=>?_
 refine Ae rfl (Bn (vs:=[v5]) (v:=(iV (Ch m))) (Jp r5) Tryd.func43 rfl rfl ⟨rfl,trivial⟩ ?_)
 refine l_A (iV (Ch m)) rfl rfl ?_
 apply Ac
 apply k4
 refine w_q rfl rfl fun K6 k6=>?_
 refine l_M (iV (Ch m)) rfl rfl ?_
 refine Aa rfl (Dg (p:=Ch m) (q:=0) rfl rfl) ?_
 apply Ac
 apply k6
 refine As (t:=Ch m != 0) rfl (fun b7=>?_) (fun b7=>?_)
 ·have q7:=Mb b7
  refine w_q rfl rfl fun K8 k8=>?_
  refine l_M (iV (Ch m)) rfl rfl ?_
  refine l_A (iV (0)) rfl rfl ?_
  refine l_A (.slice none 0 0) rfl rfl ?_
  refine l_A (iV (Ch m)) rfl rfl ?_
  apply Ac
  apply k8
  refine Aq ?_
  refine hret _ _ _ ?_
  refine ⟨l2,rfl,(.slice none 0 0),Eq.trans (b:=(.tuple #[(iV (0)),(.slice none 0 0),(iV (Ch m))])) (Mk (r:=2) (r':=3) (rs:=[4]) (v:=(iV (0))) (v':=(.slice none 0 0)) (vs:=[(iV (Ch m))]) ⟨rfl,rfl,rfl,trivial⟩) ?_,Val.cast ?_ Gx⟩
  ·rw [Aik,if_neg q7]
  ·rw [Aje,if_neg q7]
 have hm0:=Jh b7
 have ok:=Qv hm0
 have hn8:=ok.nsales
 have hpw:2 ^ m.sales.length ≤ 256:=(Nat.pow_le_pow_right (by omega) hn8:2 ^ m.sales.length ≤ 2 ^ 8)
 have hsh:1 <<< m.sales.length = 2 ^ m.sales.length:=Nat.one_shiftLeft _
 have hps:(0:Int) ≤ ((1 <<< m.sales.length:Nat):Int):=Int.natCast_nonneg _
 have q7:=Jh b7
 refine Al ?_
 apply k3
 refine Ai fun K9 k9=>?_
 refine Dc [0,1,2,3,4,5] (by kernel_rfl) rfl rfl ?_
 refine Cd (i:=0) [o1,o0,o0,o0,o0,o0] rfl (by kernel_rfl) rfl Ary rfl (Ax Lj rfl r2) fun v10 r10=>?_
 refine Cd (i:=1) [o1,o1,o0,o0,o0,o0] rfl (by kernel_rfl) rfl Ary rfl (Ax Lj rfl r2) fun v11 r11=>?_
 refine Acr (i:=2) (j:=4) [o1,o1,o1,o0,o0,o0] [o1,o1,o0,o0,o1,o0] rfl rfl (by kernel_rfl) rfl rfl rfl rfl ?_ ?_
 ·refine Cm (vs:=[v11]) (Uo r11 ok) Tryd.func82 rfl rfl ⟨rfl,trivial⟩ fun v12 ρ12 σ12 hc12=>?_
  obtain ⟨l12,s12,r12⟩:=hc12
  replace s12:=s12.symm; subst s12
  replace r2:=Arv l12 r2
  replace r10:=Asa l12 r10
  replace r11:=Asa l12 r11
  refine ⟨l12,?_⟩
  refine Qq (by kernel_rfl) l12 Ary ?_
  refine Cd (i:=3) [o1,o1,o1,o1,o0,o0] rfl (by kernel_rfl) rfl Ary rfl (Rr rfl r10 rfl r12) fun v13 r13=>?_
  refine Dj (i:=4) Akm rfl (by kernel_rfl) rfl rfl (Ct Agg fun k14=>⟨Ary,?_⟩)
  refine Fi (i:=5) Alm rfl (by kernel_rfl) rfl rfl (Du (v:=v13) (a:=(⟨m,⟨En m⟩⟩:GMarket)) (c:=Ago) Vo rfl rfl r13 rfl ⟨Ary,?_⟩)
  refine Ec rfl ?_
  apply k9
  refine Ng (a:=(⟨m,⟨En m⟩⟩:GMarket)) r13 fun ρ15 l15 r15=>?_
  replace r2:=Arv l15 r2
  refine Ai fun K16 k16=>?_
  refine w_q rfl rfl fun K17 k17=>?_
  refine Ak rfl (Ay Market.f_sales Tryd.underlying26 rfl rfl Pq (by decide) rfl r2) fun v18 r18=>?_
  refine Ak rfl (Ax Pq rfl r18) fun v19 r19=>?_
  have g20:=Val.len r19
  refine Aa rfl (Ce (el:=59) Tryd.underlying24 rfl r19) ?_
  refine Aa rfl (Ly (p:=1) (q:=m.sales.length) rfl rfl rfl (by omega) (z:=(((1 <<< m.sales.length):Nat):Int)) (Eu (by omega) (by omega))) ?_
  refine l_M (.int .u64 (0)) rfl rfl ?_
  apply Ac
  apply k17
  refine Ao ?_
  refine Cc (fun mm ee dd ρ' σ'=>∃ (x:Nat) (g:Int) (vv21_3:Value),(1 <<< m.sales.length - x) = mm∧[] = dd∧Ro.le ρ15 ρ'∧σ = σ'∧ee 6 = (.pointer (some ⟨k14,0,none⟩))∧ee 23 = (.int .u64 ((((1 <<< m.sales.length):Nat):Int)))∧ee 2 = (iV (g))∧ee 3 = vv21_3∧ee 24 = (.int .u64 ((x:Int)))∧(x ≤ 1 <<< m.sales.length)∧(g = Bq m (Cj m x))∧Val ρ' vv21_3 (Bw (Cj m x):List Int)∧True) (m:=_) ⟨0,0,(.slice none 0 0),rfl,rfl,Ary,rfl,rfl,rfl,rfl,rfl,rfl,(Nat.zero_le _),(by rw [show Cj m 0 = [] from rfl]; exact (Qy ok).symm),(Val.cast (rfl) Gx),trivial⟩ ?_
  rintro m21 e21 _ ρ21 _ ⟨x,g,vv21_3,rfl,rfl,l21,rfl,h21_6,h21_23,h21_2,h21_3,h21_24,p21_0,p21_1,VV21_3,_⟩
  replace r15:=Arv l21 r15
  have hi1:=Fe (l:=Bu x)
  have hi2:=Fe (l:=Cj m x)
  have hbl:=Ph (m:=m) (x:=x)
  have hsl:=Uk (x:=x)
  refine w_q rfl rfl fun K22 k22=>?_
  refine Aa rfl (Da (p:=(x:Int)) (q:=(((1 <<< m.sales.length):Nat):Int)) h21_24 h21_23) ?_
  apply Ac
  apply k22
  refine Ai fun K23 k23=>?_
  refine As (t:=decide ((x:Int) < (((1 <<< m.sales.length):Nat):Int))) rfl (fun b24=>?_) (fun b24=>?_)
  ·have q24:=of_decide_eq_true b24
   refine Al ?_
   apply k23
   refine Ai fun K25 k25=>?_
   refine Ao ?_
   refine w_q rfl rfl fun K26 k26=>?_
   refine Aa rfl (Ah (v:=(.int .u64 ((x:Int)))) h21_24) ?_
   refine l_A (.int .u64 ((x:Int))) rfl rfl ?_
   apply Ac
   apply k26
   refine w_q rfl rfl fun K27 k27=>?_
   refine l_M (.int .u64 ((x:Int))) rfl rfl ?_
   refine Ae rfl (Cm (vs:=[(.int .u64 ((x:Int)))]) (Acp (x:=x) (by omega)) Tryd.func88 rfl rfl ⟨rfl,trivial⟩ fun v28 ρ28 σ28 hc28=>?_)
   obtain ⟨l28,s28,r28⟩:=hc28
   replace s28:=s28.symm; subst s28
   replace r15:=Arv l28 r15
   replace VV21_3:=Asa l28 VV21_3
   refine l_A v28 rfl rfl ?_
   apply Ac
   apply k27
   refine w_q rfl rfl fun K29 k29=>?_
   refine Ak rfl (Ax Vo h21_6 r15) fun v30 r30=>?_
   refine l_M v28 rfl rfl ?_
   refine Ae rfl (Bn (vs:=[v30,v28]) (v:=(iV (Bq m (Bu x)))) (Adq (l:=Bu x) r30 r28 ok (Adj (by omega) hn8) (by omega)) Tryd.func89 rfl rfl ⟨rfl,rfl,trivial⟩ ?_)
   refine l_A (iV (Bq m (Bu x))) rfl rfl ?_
   apply Ac
   apply k29
   refine w_q rfl rfl fun K31 k31=>?_
   refine l_M v28 rfl rfl ?_
   have g32:=Val.len r28
   refine Aa rfl (Ce (el:=3) Tryd.underlying30 rfl r28) ?_
   refine Aa rfl (Ah (v:=vv21_3) h21_3) ?_
   have g33:=Val.len VV21_3
   refine Aa rfl (Ce (el:=3) Tryd.underlying30 rfl VV21_3) ?_
   refine Aa rfl (Da (p:=(((Bw (Bu x)).length:Nat):Int)) (q:=(((Bw (Cj m x)).length:Nat):Int)) rfl rfl) ?_
   refine l_M (.bool (decide ((((Bw (Bu x)).length:Nat):Int) < (((Bw (Cj m x)).length:Nat):Int)))) rfl rfl ?_
   refine Cn (decide ((((Bw (Bu x)).length:Nat):Int) < (((Bw (Cj m x)).length:Nat):Int))) (fun b34=>?_) (fun b34=>?_)
   ·have q34:=of_decide_eq_true b34
    refine Ap (Bl rfl rfl rfl b34) ?_
    refine Ap (Bl rfl rfl rfl b34) ?_
    refine Ap (Bl rfl rfl rfl b34) ?_
    refine Ap (Bl rfl rfl rfl b34) ?_
    refine Ap (Bl rfl rfl rfl b34) ?_
    refine Ap (Bl rfl rfl rfl b34) ?_
    refine Ap (Jf rfl rfl rfl) ?_
    refine Ap (Jf rfl rfl rfl) ?_
    refine Ap (Jf rfl rfl rfl) ?_
    refine Ap (Jf rfl rfl rfl) ?_
    refine Ap (Bl rfl rfl rfl b34) ?_
    refine Aa rfl (Bt rfl b34 (v:=(.bool (true))) rfl) ?_
    refine l_A (.bool (true)) rfl rfl ?_
    apply Ac
    apply k31
    refine w_q rfl rfl fun K35 k35=>?_
    refine l_M (iV (Bq m (Bu x))) rfl rfl ?_
    refine Aa rfl (Ah (v:=(iV (g))) h21_2) ?_
    refine Aa rfl (Gk (p:=Bq m (Bu x)) (q:=g) rfl rfl) ?_
    refine l_M (.bool (decide (Bq m (Bu x) > g))) rfl rfl ?_
    refine Cn (decide (Bq m (Bu x) > g)) (fun b36=>?_) (fun b36=>?_)
    ·have q36:=of_decide_eq_true b36
     refine Ap (Bl rfl rfl rfl b36) ?_
     refine Ap (Bl rfl rfl rfl b36) ?_
     refine Ap (Bl rfl rfl rfl b36) ?_
     refine Ap (Bl rfl rfl rfl b36) ?_
     refine Ap (Jf rfl rfl rfl) ?_
     refine Ap (Bl rfl rfl rfl b36) ?_
     refine Aa rfl (Bt rfl b36 (v:=(.bool (true))) rfl) ?_
     apply Ac
     apply k35
     refine Co rfl rfl ?_
     refine Ag rfl rfl ?_
     refine l_M (iV (Bq m (Bu x))) rfl rfl ?_
     refine l_M v28 rfl rfl ?_
     refine l_A (iV (Bq m (Bu x))) rfl rfl ?_
     refine l_A v28 rfl rfl ?_
     apply Ac
     apply k25
     refine Ag rfl rfl ?_
     refine Aa rfl (Br (p:=(x:Int)) (q:=1) h21_24 rfl (z:=(((x + 1):Nat):Int)) ((Eu (by omega) (by omega)).trans (by push_cast; rfl))) ?_
     refine l_M (.int .u64 ((((x + 1):Nat):Int))) rfl rfl ?_
     apply Ac
     refine ⟨_,?_,((x + 1)),(Bq m (Bu x)),v28,rfl,rfl,(Arz l21 l28),rfl,h21_6,h21_23,rfl,rfl,rfl,(by omega),(by rw [Dy (by unfold Bv Cr; rw [← Cf]; omega)]),(Val.cast (by rw [Dy (by unfold Bv Cr; rw [← Cf]; omega)]) r28),trivial⟩
     omega
    have q36:=of_decide_eq_false b36
    refine l_M (iV (Bq m (Bu x))) (Ar rfl rfl rfl b36) rfl ?_
    refine Aa (Ar rfl rfl rfl b36) (Ah (v:=(iV (g))) h21_2) ?_
    refine Aa (Ar rfl rfl rfl b36) (Ek (p:=Bq m (Bu x)) (q:=g) rfl rfl) ?_
    refine l_M (.bool (Bq m (Bu x) == g)) (Ar rfl rfl rfl b36) rfl ?_
    refine Cn (Bq m (Bu x) == g) (fun b37=>?_) (fun b37=>?_)
    ·have q37:=Jo b37
     refine l_M (.bool (true)) (Ar rfl rfl rfl b37) rfl ?_
     refine Aa (Ar rfl rfl rfl b36) (Bt rfl b37 (v:=(.bool (true))) rfl) ?_
     refine Aa rfl (Bm rfl b36 (v:=(.bool (true))) rfl) ?_
     apply Ac
     apply k35
     refine Co rfl rfl ?_
     refine Ag rfl rfl ?_
     refine l_M (iV (Bq m (Bu x))) rfl rfl ?_
     refine l_M v28 rfl rfl ?_
     refine l_A (iV (Bq m (Bu x))) rfl rfl ?_
     refine l_A v28 rfl rfl ?_
     apply Ac
     apply k25
     refine Ag rfl rfl ?_
     refine Aa rfl (Br (p:=(x:Int)) (q:=1) h21_24 rfl (z:=(((x + 1):Nat):Int)) ((Eu (by omega) (by omega)).trans (by push_cast; rfl))) ?_
     refine l_M (.int .u64 ((((x + 1):Nat):Int))) rfl rfl ?_
     apply Ac
     refine ⟨_,?_,((x + 1)),(Bq m (Bu x)),v28,rfl,rfl,(Arz l21 l28),rfl,h21_6,h21_23,rfl,rfl,rfl,(by omega),(by rw [Dy (by unfold Bv Cr; rw [← Cf]; omega)]),(Val.cast (by rw [Dy (by unfold Bv Cr; rw [← Cf]; omega)]) r28),trivial⟩
     omega
    have q37:=La b37
    refine Ap (Bl rfl rfl rfl b37) ?_
    refine Aa (Ar rfl rfl rfl b36) (Bm rfl b37 (v:=(.bool (false))) rfl) ?_
    refine Aa rfl (Bm rfl b36 (v:=(.bool (false))) rfl) ?_
    apply Ac
    apply k35
    refine Cg rfl rfl ?_
    refine Al ?_
    apply k25
    refine Ag rfl rfl ?_
    refine Aa rfl (Br (p:=(x:Int)) (q:=1) h21_24 rfl (z:=(((x + 1):Nat):Int)) ((Eu (by omega) (by omega)).trans (by push_cast; rfl))) ?_
    refine l_M (.int .u64 ((((x + 1):Nat):Int))) rfl rfl ?_
    apply Ac
    refine ⟨_,?_,((x + 1)),(g),vv21_3,rfl,rfl,(Arz l21 l28),rfl,h21_6,h21_23,h21_2,h21_3,rfl,(by omega),(by rw [Ea (by unfold Bv Cr; rw [← Cf]; omega)]; exact p21_1),(Val.cast (by rw [Ea (by unfold Bv Cr; rw [← Cf]; omega)]) VV21_3),trivial⟩
    omega
   have q34:=of_decide_eq_false b34
   refine l_M v28 (Ar rfl rfl rfl b34) rfl ?_
   have g38:=Val.len r28
   refine Aa (Ar rfl rfl rfl b34) (Ce (el:=3) Tryd.underlying30 rfl r28) ?_
   refine Aa (Ar rfl rfl rfl b34) (Ah (v:=vv21_3) h21_3) ?_
   have g39:=Val.len VV21_3
   refine Aa (Ar rfl rfl rfl b34) (Ce (el:=3) Tryd.underlying30 rfl VV21_3) ?_
   refine Aa (Ar rfl rfl rfl b34) (Ek (p:=(((Bw (Bu x)).length:Nat):Int)) (q:=(((Bw (Cj m x)).length:Nat):Int)) rfl rfl) ?_
   refine l_M (.bool ((((Bw (Bu x)).length:Nat):Int) == (((Bw (Cj m x)).length:Nat):Int))) (Ar rfl rfl rfl b34) rfl ?_
   refine Cn ((((Bw (Bu x)).length:Nat):Int) == (((Bw (Cj m x)).length:Nat):Int)) (fun b40=>?_) (fun b40=>?_)
   ·have q40:=Jo b40
    refine l_M v28 (Ar rfl rfl rfl b40) rfl ?_
    refine Aa (Ar rfl rfl rfl b40) (Ah (v:=vv21_3) h21_3) ?_
    refine Ae (Ar rfl rfl rfl b40) (Bn (vs:=[v28,vv21_3]) (v:=(iV ((Hb (Bw (Bu x)) (Bw (Cj m x)))))) (Ahe r28 VV21_3) Tryd.func90 rfl rfl ⟨rfl,rfl,trivial⟩ ?_)
    refine Aa (Ar rfl rfl rfl b40) (Da (p:=(Hb (Bw (Bu x)) (Bw (Cj m x)))) (q:=0) rfl rfl) ?_
    refine Aa (Ar rfl rfl rfl b34) (Bt rfl b40 (v:=(.bool (decide ((Hb (Bw (Bu x)) (Bw (Cj m x))) < 0)))) rfl) ?_
    refine Aa rfl (Bm rfl b34 (v:=(.bool (decide ((Hb (Bw (Bu x)) (Bw (Cj m x))) < 0)))) rfl) ?_
    refine l_A (.bool (decide ((Hb (Bw (Bu x)) (Bw (Cj m x))) < 0))) rfl rfl ?_
    apply Ac
    apply k31
    refine w_q rfl rfl fun K41 k41=>?_
    refine l_M (iV (Bq m (Bu x))) rfl rfl ?_
    refine Aa rfl (Ah (v:=(iV (g))) h21_2) ?_
    refine Aa rfl (Gk (p:=Bq m (Bu x)) (q:=g) rfl rfl) ?_
    refine l_M (.bool (decide (Bq m (Bu x) > g))) rfl rfl ?_
    refine Cn (decide (Bq m (Bu x) > g)) (fun b42=>?_) (fun b42=>?_)
    ·have q42:=of_decide_eq_true b42
     refine Ap (Bl rfl rfl rfl b42) ?_
     refine Ap (Bl rfl rfl rfl b42) ?_
     refine Ap (Bl rfl rfl rfl b42) ?_
     refine Ap (Bl rfl rfl rfl b42) ?_
     refine Ap (Jf rfl rfl rfl) ?_
     refine Ap (Bl rfl rfl rfl b42) ?_
     refine Aa rfl (Bt rfl b42 (v:=(.bool (true))) rfl) ?_
     apply Ac
     apply k41
     refine Co rfl rfl ?_
     refine Ag rfl rfl ?_
     refine l_M (iV (Bq m (Bu x))) rfl rfl ?_
     refine l_M v28 rfl rfl ?_
     refine l_A (iV (Bq m (Bu x))) rfl rfl ?_
     refine l_A v28 rfl rfl ?_
     apply Ac
     apply k25
     refine Ag rfl rfl ?_
     refine Aa rfl (Br (p:=(x:Int)) (q:=1) h21_24 rfl (z:=(((x + 1):Nat):Int)) ((Eu (by omega) (by omega)).trans (by push_cast; rfl))) ?_
     refine l_M (.int .u64 ((((x + 1):Nat):Int))) rfl rfl ?_
     apply Ac
     refine ⟨_,?_,((x + 1)),(Bq m (Bu x)),v28,rfl,rfl,(Arz l21 l28),rfl,h21_6,h21_23,rfl,rfl,rfl,(by omega),(by rw [Dy (by unfold Bv Cr; rw [← Cf]; omega)]),(Val.cast (by rw [Dy (by unfold Bv Cr; rw [← Cf]; omega)]) r28),trivial⟩
     omega
    have q42:=of_decide_eq_false b42
    refine l_M (iV (Bq m (Bu x))) (Ar rfl rfl rfl b42) rfl ?_
    refine Aa (Ar rfl rfl rfl b42) (Ah (v:=(iV (g))) h21_2) ?_
    refine Aa (Ar rfl rfl rfl b42) (Ek (p:=Bq m (Bu x)) (q:=g) rfl rfl) ?_
    refine l_M (.bool (Bq m (Bu x) == g)) (Ar rfl rfl rfl b42) rfl ?_
    refine Cn (Bq m (Bu x) == g) (fun b43=>?_) (fun b43=>?_)
    ·have q43:=Jo b43
     refine l_M (.bool (decide ((Hb (Bw (Bu x)) (Bw (Cj m x))) < 0))) (Ar rfl rfl rfl b43) rfl ?_
     refine Aa (Ar rfl rfl rfl b42) (Bt rfl b43 (v:=(.bool (decide ((Hb (Bw (Bu x)) (Bw (Cj m x))) < 0)))) rfl) ?_
     refine Aa rfl (Bm rfl b42 (v:=(.bool (decide ((Hb (Bw (Bu x)) (Bw (Cj m x))) < 0)))) rfl) ?_
     apply Ac
     apply k41
     refine As (t:=decide ((Hb (Bw (Bu x)) (Bw (Cj m x))) < 0)) rfl (fun b44=>?_) (fun b44=>?_)
     ·have q44:=of_decide_eq_true b44
      refine Ag rfl rfl ?_
      refine l_M (iV (Bq m (Bu x))) rfl rfl ?_
      refine l_M v28 rfl rfl ?_
      refine l_A (iV (Bq m (Bu x))) rfl rfl ?_
      refine l_A v28 rfl rfl ?_
      apply Ac
      apply k25
      refine Ag rfl rfl ?_
      refine Aa rfl (Br (p:=(x:Int)) (q:=1) h21_24 rfl (z:=(((x + 1):Nat):Int)) ((Eu (by omega) (by omega)).trans (by push_cast; rfl))) ?_
      refine l_M (.int .u64 ((((x + 1):Nat):Int))) rfl rfl ?_
      apply Ac
      refine ⟨_,?_,((x + 1)),(Bq m (Bu x)),v28,rfl,rfl,(Arz l21 l28),rfl,h21_6,h21_23,rfl,rfl,rfl,(by omega),(by rw [Dy (by unfold Bv Cr; rw [← Cf]; omega)]),(Val.cast (by rw [Dy (by unfold Bv Cr; rw [← Cf]; omega)]) r28),trivial⟩
      omega
     have q44:=of_decide_eq_false b44
     refine Al ?_
     apply k25
     refine Ag rfl rfl ?_
     refine Aa rfl (Br (p:=(x:Int)) (q:=1) h21_24 rfl (z:=(((x + 1):Nat):Int)) ((Eu (by omega) (by omega)).trans (by push_cast; rfl))) ?_
     refine l_M (.int .u64 ((((x + 1):Nat):Int))) rfl rfl ?_
     apply Ac
     refine ⟨_,?_,((x + 1)),(g),vv21_3,rfl,rfl,(Arz l21 l28),rfl,h21_6,h21_23,h21_2,h21_3,rfl,(by omega),(by rw [Ea (by unfold Bv Cr; rw [← Cf]; omega)]; exact p21_1),(Val.cast (by rw [Ea (by unfold Bv Cr; rw [← Cf]; omega)]) VV21_3),trivial⟩
     omega
    have q43:=La b43
    refine Ap (Bl rfl rfl rfl b43) ?_
    refine Aa (Ar rfl rfl rfl b42) (Bm rfl b43 (v:=(.bool (false))) rfl) ?_
    refine Aa rfl (Bm rfl b42 (v:=(.bool (false))) rfl) ?_
    apply Ac
    apply k41
    refine Cg rfl rfl ?_
    refine Al ?_
    apply k25
    refine Ag rfl rfl ?_
    refine Aa rfl (Br (p:=(x:Int)) (q:=1) h21_24 rfl (z:=(((x + 1):Nat):Int)) ((Eu (by omega) (by omega)).trans (by push_cast; rfl))) ?_
    refine l_M (.int .u64 ((((x + 1):Nat):Int))) rfl rfl ?_
    apply Ac
    refine ⟨_,?_,((x + 1)),(g),vv21_3,rfl,rfl,(Arz l21 l28),rfl,h21_6,h21_23,h21_2,h21_3,rfl,(by omega),(by rw [Ea (by unfold Bv Cr; rw [← Cf]; omega)]; exact p21_1),(Val.cast (by rw [Ea (by unfold Bv Cr; rw [← Cf]; omega)]) VV21_3),trivial⟩
    omega
   have q40:=La b40
   refine Ap (Bl rfl rfl rfl b40) ?_
   refine Ap (Bl rfl rfl rfl b40) ?_
   refine Ap (Bl rfl rfl rfl b40) ?_
   refine Ap (Bl rfl rfl rfl b40) ?_
   refine Aa (Ar rfl rfl rfl b34) (Bm rfl b40 (v:=(.bool (false))) rfl) ?_
   refine Aa rfl (Bm rfl b34 (v:=(.bool (false))) rfl) ?_
   refine l_A (.bool (false)) rfl rfl ?_
   apply Ac
   apply k31
   refine w_q rfl rfl fun K45 k45=>?_
   refine l_M (iV (Bq m (Bu x))) rfl rfl ?_
   refine Aa rfl (Ah (v:=(iV (g))) h21_2) ?_
   refine Aa rfl (Gk (p:=Bq m (Bu x)) (q:=g) rfl rfl) ?_
   refine l_M (.bool (decide (Bq m (Bu x) > g))) rfl rfl ?_
   refine Cn (decide (Bq m (Bu x) > g)) (fun b46=>?_) (fun b46=>?_)
   ·have q46:=of_decide_eq_true b46
    refine Ap (Bl rfl rfl rfl b46) ?_
    refine Ap (Bl rfl rfl rfl b46) ?_
    refine Ap (Bl rfl rfl rfl b46) ?_
    refine Ap (Bl rfl rfl rfl b46) ?_
    refine Ap (Jf rfl rfl rfl) ?_
    refine Ap (Bl rfl rfl rfl b46) ?_
    refine Aa rfl (Bt rfl b46 (v:=(.bool (true))) rfl) ?_
    apply Ac
    apply k45
    refine Co rfl rfl ?_
    refine Ag rfl rfl ?_
    refine l_M (iV (Bq m (Bu x))) rfl rfl ?_
    refine l_M v28 rfl rfl ?_
    refine l_A (iV (Bq m (Bu x))) rfl rfl ?_
    refine l_A v28 rfl rfl ?_
    apply Ac
    apply k25
    refine Ag rfl rfl ?_
    refine Aa rfl (Br (p:=(x:Int)) (q:=1) h21_24 rfl (z:=(((x + 1):Nat):Int)) ((Eu (by omega) (by omega)).trans (by push_cast; rfl))) ?_
    refine l_M (.int .u64 ((((x + 1):Nat):Int))) rfl rfl ?_
    apply Ac
    refine ⟨_,?_,((x + 1)),(Bq m (Bu x)),v28,rfl,rfl,(Arz l21 l28),rfl,h21_6,h21_23,rfl,rfl,rfl,(by omega),(by rw [Dy (by unfold Bv Cr; rw [← Cf]; omega)]),(Val.cast (by rw [Dy (by unfold Bv Cr; rw [← Cf]; omega)]) r28),trivial⟩
    omega
   have q46:=of_decide_eq_false b46
   refine l_M (iV (Bq m (Bu x))) (Ar rfl rfl rfl b46) rfl ?_
   refine Aa (Ar rfl rfl rfl b46) (Ah (v:=(iV (g))) h21_2) ?_
   refine Aa (Ar rfl rfl rfl b46) (Ek (p:=Bq m (Bu x)) (q:=g) rfl rfl) ?_
   refine l_M (.bool (Bq m (Bu x) == g)) (Ar rfl rfl rfl b46) rfl ?_
   refine Cn (Bq m (Bu x) == g) (fun b47=>?_) (fun b47=>?_)
   ·have q47:=Jo b47
    refine l_M (.bool (false)) (Ar rfl rfl rfl b47) rfl ?_
    refine Aa (Ar rfl rfl rfl b46) (Bt rfl b47 (v:=(.bool (false))) rfl) ?_
    refine Aa rfl (Bm rfl b46 (v:=(.bool (false))) rfl) ?_
    apply Ac
    apply k45
    refine Cg rfl rfl ?_
    refine Al ?_
    apply k25
    refine Ag rfl rfl ?_
    refine Aa rfl (Br (p:=(x:Int)) (q:=1) h21_24 rfl (z:=(((x + 1):Nat):Int)) ((Eu (by omega) (by omega)).trans (by push_cast; rfl))) ?_
    refine l_M (.int .u64 ((((x + 1):Nat):Int))) rfl rfl ?_
    apply Ac
    refine ⟨_,?_,((x + 1)),(g),vv21_3,rfl,rfl,(Arz l21 l28),rfl,h21_6,h21_23,h21_2,h21_3,rfl,(by omega),(by rw [Ea (by unfold Bv Cr; rw [← Cf]; omega)]; exact p21_1),(Val.cast (by rw [Ea (by unfold Bv Cr; rw [← Cf]; omega)]) VV21_3),trivial⟩
    omega
   have q47:=La b47
   refine Ap (Bl rfl rfl rfl b47) ?_
   refine Aa (Ar rfl rfl rfl b46) (Bm rfl b47 (v:=(.bool (false))) rfl) ?_
   refine Aa rfl (Bm rfl b46 (v:=(.bool (false))) rfl) ?_
   apply Ac
   apply k45
   refine Cg rfl rfl ?_
   refine Al ?_
   apply k25
   refine Ag rfl rfl ?_
   refine Aa rfl (Br (p:=(x:Int)) (q:=1) h21_24 rfl (z:=(((x + 1):Nat):Int)) ((Eu (by omega) (by omega)).trans (by push_cast; rfl))) ?_
   refine l_M (.int .u64 ((((x + 1):Nat):Int))) rfl rfl ?_
   apply Ac
   refine ⟨_,?_,((x + 1)),(g),vv21_3,rfl,rfl,(Arz l21 l28),rfl,h21_6,h21_23,h21_2,h21_3,rfl,(by omega),(by rw [Ea (by unfold Bv Cr; rw [← Cf]; omega)]; exact p21_1),(Val.cast (by rw [Ea (by unfold Bv Cr; rw [← Cf]; omega)]) VV21_3),trivial⟩
   omega
  have q24:=of_decide_eq_false b24
  refine Bx ?_
  apply k16
  refine w_q rfl rfl fun K48 k48=>?_
  refine Aa rfl (Ah (v:=(iV (g))) h21_2) ?_
  refine Aa rfl (Ah (v:=vv21_3) h21_3) ?_
  refine l_A (iV (g)) rfl rfl ?_
  refine l_A vv21_3 rfl rfl ?_
  refine l_A (iV (0)) rfl rfl ?_
  apply Ac
  apply k48
  refine Aq ?_
  refine hret _ _ _ ?_
  refine ⟨(Arz (Arz (Arz l2 l12) l15) l21),rfl,vv21_3,Eq.trans (b:=(.tuple #[(iV (g)),vv21_3,(iV (0))])) (Mk (r:=2) (r':=3) (rs:=[4]) (v:=(iV (g))) (v':=vv21_3) (vs:=[(iV (0))]) ⟨rfl,rfl,rfl,trivial⟩) ?_,Val.cast ?_ VV21_3⟩
  ·rw [Aik,if_pos hm0,p21_1,show x = 2 ^ m.sales.length by omega,Mn hn8,hm0]
  ·rw [Aje,if_pos hm0,show x = 2 ^ m.sales.length by omega,Mn hn8]
 ·refine Ct Agg fun k49=>⟨Ary,?_⟩
  refine Dj (i:=2) [o1,o1,o1,o0,o1,o0] rfl (by kernel_rfl) rfl rfl (Cm (vs:=[v11]) (Uo r11 ok) Tryd.func82 rfl rfl ⟨rfl,trivial⟩ fun v50 ρ50 σ50 hc50=>?_)
  obtain ⟨l50,s50,r50⟩:=hc50
  replace s50:=s50.symm; subst s50
  replace r2:=Arv l50 r2
  replace r10:=Asa l50 r10
  replace r11:=Asa l50 r11
  refine ⟨l50,?_⟩
  refine Hl (i:=3) Akm rfl (by kernel_rfl) rfl l50 rfl (Rr rfl r10 rfl r50) fun v51 r51=>?_
  refine Fi (i:=5) Alm rfl (by kernel_rfl) rfl rfl (Du (v:=v51) (a:=(⟨m,⟨En m⟩⟩:GMarket)) (c:=Ago) Vo rfl rfl r51 rfl ⟨l50,?_⟩)
  refine Ec rfl ?_
  apply k9
  refine Ng (a:=(⟨m,⟨En m⟩⟩:GMarket)) r51 fun ρ52 l52 r52=>?_
  replace r2:=Arv l52 r2
  refine Ai fun K53 k53=>?_
  refine w_q rfl rfl fun K54 k54=>?_
  refine Ak rfl (Ay Market.f_sales Tryd.underlying26 rfl rfl Pq (by decide) rfl r2) fun v55 r55=>?_
  refine Ak rfl (Ax Pq rfl r55) fun v56 r56=>?_
  have g57:=Val.len r56
  refine Aa rfl (Ce (el:=59) Tryd.underlying24 rfl r56) ?_
  refine Aa rfl (Ly (p:=1) (q:=m.sales.length) rfl rfl rfl (by omega) (z:=(((1 <<< m.sales.length):Nat):Int)) (Eu (by omega) (by omega))) ?_
  refine l_M (.int .u64 (0)) rfl rfl ?_
  apply Ac
  apply k54
  refine Ao ?_
  refine Cc (fun mm ee dd ρ' σ'=>∃ (x:Nat) (g:Int) (vv58_3:Value),(1 <<< m.sales.length - x) = mm∧[] = dd∧Ro.le ρ52 ρ'∧σ = σ'∧ee 6 = (.pointer (some ⟨k49,0,none⟩))∧ee 23 = (.int .u64 ((((1 <<< m.sales.length):Nat):Int)))∧ee 2 = (iV (g))∧ee 3 = vv58_3∧ee 24 = (.int .u64 ((x:Int)))∧(x ≤ 1 <<< m.sales.length)∧(g = Bq m (Cj m x))∧Val ρ' vv58_3 (Bw (Cj m x):List Int)∧True) (m:=_) ⟨0,0,(.slice none 0 0),rfl,rfl,Ary,rfl,rfl,rfl,rfl,rfl,rfl,(Nat.zero_le _),(by rw [show Cj m 0 = [] from rfl]; exact (Qy ok).symm),(Val.cast (rfl) Gx),trivial⟩ ?_
  rintro m58 e58 _ ρ58 _ ⟨x,g,vv58_3,rfl,rfl,l58,rfl,h58_6,h58_23,h58_2,h58_3,h58_24,p58_0,p58_1,VV58_3,_⟩
  replace r52:=Arv l58 r52
  have hi1:=Fe (l:=Bu x)
  have hi2:=Fe (l:=Cj m x)
  have hbl:=Ph (m:=m) (x:=x)
  have hsl:=Uk (x:=x)
  refine w_q rfl rfl fun K59 k59=>?_
  refine Aa rfl (Da (p:=(x:Int)) (q:=(((1 <<< m.sales.length):Nat):Int)) h58_24 h58_23) ?_
  apply Ac
  apply k59
  refine Ai fun K60 k60=>?_
  refine As (t:=decide ((x:Int) < (((1 <<< m.sales.length):Nat):Int))) rfl (fun b61=>?_) (fun b61=>?_)
  ·have q61:=of_decide_eq_true b61
   refine Al ?_
   apply k60
   refine Ai fun K62 k62=>?_
   refine Ao ?_
   refine w_q rfl rfl fun K63 k63=>?_
   refine Aa rfl (Ah (v:=(.int .u64 ((x:Int)))) h58_24) ?_
   refine l_A (.int .u64 ((x:Int))) rfl rfl ?_
   apply Ac
   apply k63
   refine w_q rfl rfl fun K64 k64=>?_
   refine l_M (.int .u64 ((x:Int))) rfl rfl ?_
   refine Ae rfl (Cm (vs:=[(.int .u64 ((x:Int)))]) (Acp (x:=x) (by omega)) Tryd.func88 rfl rfl ⟨rfl,trivial⟩ fun v65 ρ65 σ65 hc65=>?_)
   obtain ⟨l65,s65,r65⟩:=hc65
   replace s65:=s65.symm; subst s65
   replace r52:=Arv l65 r52
   replace VV58_3:=Asa l65 VV58_3
   refine l_A v65 rfl rfl ?_
   apply Ac
   apply k64
   refine w_q rfl rfl fun K66 k66=>?_
   refine Ak rfl (Ax Vo h58_6 r52) fun v67 r67=>?_
   refine l_M v65 rfl rfl ?_
   refine Ae rfl (Bn (vs:=[v67,v65]) (v:=(iV (Bq m (Bu x)))) (Adq (l:=Bu x) r67 r65 ok (Adj (by omega) hn8) (by omega)) Tryd.func89 rfl rfl ⟨rfl,rfl,trivial⟩ ?_)
   refine l_A (iV (Bq m (Bu x))) rfl rfl ?_
   apply Ac
   apply k66
   refine w_q rfl rfl fun K68 k68=>?_
   refine l_M v65 rfl rfl ?_
   have g69:=Val.len r65
   refine Aa rfl (Ce (el:=3) Tryd.underlying30 rfl r65) ?_
   refine Aa rfl (Ah (v:=vv58_3) h58_3) ?_
   have g70:=Val.len VV58_3
   refine Aa rfl (Ce (el:=3) Tryd.underlying30 rfl VV58_3) ?_
   refine Aa rfl (Da (p:=(((Bw (Bu x)).length:Nat):Int)) (q:=(((Bw (Cj m x)).length:Nat):Int)) rfl rfl) ?_
   refine l_M (.bool (decide ((((Bw (Bu x)).length:Nat):Int) < (((Bw (Cj m x)).length:Nat):Int)))) rfl rfl ?_
   refine Cn (decide ((((Bw (Bu x)).length:Nat):Int) < (((Bw (Cj m x)).length:Nat):Int))) (fun b71=>?_) (fun b71=>?_)
   ·have q71:=of_decide_eq_true b71
    refine Ap (Bl rfl rfl rfl b71) ?_
    refine Ap (Bl rfl rfl rfl b71) ?_
    refine Ap (Bl rfl rfl rfl b71) ?_
    refine Ap (Bl rfl rfl rfl b71) ?_
    refine Ap (Bl rfl rfl rfl b71) ?_
    refine Ap (Bl rfl rfl rfl b71) ?_
    refine Ap (Jf rfl rfl rfl) ?_
    refine Ap (Jf rfl rfl rfl) ?_
    refine Ap (Jf rfl rfl rfl) ?_
    refine Ap (Jf rfl rfl rfl) ?_
    refine Ap (Bl rfl rfl rfl b71) ?_
    refine Aa rfl (Bt rfl b71 (v:=(.bool (true))) rfl) ?_
    refine l_A (.bool (true)) rfl rfl ?_
    apply Ac
    apply k68
    refine w_q rfl rfl fun K72 k72=>?_
    refine l_M (iV (Bq m (Bu x))) rfl rfl ?_
    refine Aa rfl (Ah (v:=(iV (g))) h58_2) ?_
    refine Aa rfl (Gk (p:=Bq m (Bu x)) (q:=g) rfl rfl) ?_
    refine l_M (.bool (decide (Bq m (Bu x) > g))) rfl rfl ?_
    refine Cn (decide (Bq m (Bu x) > g)) (fun b73=>?_) (fun b73=>?_)
    ·have q73:=of_decide_eq_true b73
     refine Ap (Bl rfl rfl rfl b73) ?_
     refine Ap (Bl rfl rfl rfl b73) ?_
     refine Ap (Bl rfl rfl rfl b73) ?_
     refine Ap (Bl rfl rfl rfl b73) ?_
     refine Ap (Jf rfl rfl rfl) ?_
     refine Ap (Bl rfl rfl rfl b73) ?_
     refine Aa rfl (Bt rfl b73 (v:=(.bool (true))) rfl) ?_
     apply Ac
     apply k72
     refine Co rfl rfl ?_
     refine Ag rfl rfl ?_
     refine l_M (iV (Bq m (Bu x))) rfl rfl ?_
     refine l_M v65 rfl rfl ?_
     refine l_A (iV (Bq m (Bu x))) rfl rfl ?_
     refine l_A v65 rfl rfl ?_
     apply Ac
     apply k62
     refine Ag rfl rfl ?_
     refine Aa rfl (Br (p:=(x:Int)) (q:=1) h58_24 rfl (z:=(((x + 1):Nat):Int)) ((Eu (by omega) (by omega)).trans (by push_cast; rfl))) ?_
     refine l_M (.int .u64 ((((x + 1):Nat):Int))) rfl rfl ?_
     apply Ac
     refine ⟨_,?_,((x + 1)),(Bq m (Bu x)),v65,rfl,rfl,(Arz l58 l65),rfl,h58_6,h58_23,rfl,rfl,rfl,(by omega),(by rw [Dy (by unfold Bv Cr; rw [← Cf]; omega)]),(Val.cast (by rw [Dy (by unfold Bv Cr; rw [← Cf]; omega)]) r65),trivial⟩
     omega
    have q73:=of_decide_eq_false b73
    refine l_M (iV (Bq m (Bu x))) (Ar rfl rfl rfl b73) rfl ?_
    refine Aa (Ar rfl rfl rfl b73) (Ah (v:=(iV (g))) h58_2) ?_
    refine Aa (Ar rfl rfl rfl b73) (Ek (p:=Bq m (Bu x)) (q:=g) rfl rfl) ?_
    refine l_M (.bool (Bq m (Bu x) == g)) (Ar rfl rfl rfl b73) rfl ?_
    refine Cn (Bq m (Bu x) == g) (fun b74=>?_) (fun b74=>?_)
    ·have q74:=Jo b74
     refine l_M (.bool (true)) (Ar rfl rfl rfl b74) rfl ?_
     refine Aa (Ar rfl rfl rfl b73) (Bt rfl b74 (v:=(.bool (true))) rfl) ?_
     refine Aa rfl (Bm rfl b73 (v:=(.bool (true))) rfl) ?_
     apply Ac
     apply k72
     refine Co rfl rfl ?_
     refine Ag rfl rfl ?_
     refine l_M (iV (Bq m (Bu x))) rfl rfl ?_
     refine l_M v65 rfl rfl ?_
     refine l_A (iV (Bq m (Bu x))) rfl rfl ?_
     refine l_A v65 rfl rfl ?_
     apply Ac
     apply k62
     refine Ag rfl rfl ?_
     refine Aa rfl (Br (p:=(x:Int)) (q:=1) h58_24 rfl (z:=(((x + 1):Nat):Int)) ((Eu (by omega) (by omega)).trans (by push_cast; rfl))) ?_
     refine l_M (.int .u64 ((((x + 1):Nat):Int))) rfl rfl ?_
     apply Ac
     refine ⟨_,?_,((x + 1)),(Bq m (Bu x)),v65,rfl,rfl,(Arz l58 l65),rfl,h58_6,h58_23,rfl,rfl,rfl,(by omega),(by rw [Dy (by unfold Bv Cr; rw [← Cf]; omega)]),(Val.cast (by rw [Dy (by unfold Bv Cr; rw [← Cf]; omega)]) r65),trivial⟩
     omega
    have q74:=La b74
    refine Ap (Bl rfl rfl rfl b74) ?_
    refine Aa (Ar rfl rfl rfl b73) (Bm rfl b74 (v:=(.bool (false))) rfl) ?_
    refine Aa rfl (Bm rfl b73 (v:=(.bool (false))) rfl) ?_
    apply Ac
    apply k72
    refine Cg rfl rfl ?_
    refine Al ?_
    apply k62
    refine Ag rfl rfl ?_
    refine Aa rfl (Br (p:=(x:Int)) (q:=1) h58_24 rfl (z:=(((x + 1):Nat):Int)) ((Eu (by omega) (by omega)).trans (by push_cast; rfl))) ?_
    refine l_M (.int .u64 ((((x + 1):Nat):Int))) rfl rfl ?_
    apply Ac
    refine ⟨_,?_,((x + 1)),(g),vv58_3,rfl,rfl,(Arz l58 l65),rfl,h58_6,h58_23,h58_2,h58_3,rfl,(by omega),(by rw [Ea (by unfold Bv Cr; rw [← Cf]; omega)]; exact p58_1),(Val.cast (by rw [Ea (by unfold Bv Cr; rw [← Cf]; omega)]) VV58_3),trivial⟩
    omega
   have q71:=of_decide_eq_false b71
   refine l_M v65 (Ar rfl rfl rfl b71) rfl ?_
   have g75:=Val.len r65
   refine Aa (Ar rfl rfl rfl b71) (Ce (el:=3) Tryd.underlying30 rfl r65) ?_
   refine Aa (Ar rfl rfl rfl b71) (Ah (v:=vv58_3) h58_3) ?_
   have g76:=Val.len VV58_3
   refine Aa (Ar rfl rfl rfl b71) (Ce (el:=3) Tryd.underlying30 rfl VV58_3) ?_
   refine Aa (Ar rfl rfl rfl b71) (Ek (p:=(((Bw (Bu x)).length:Nat):Int)) (q:=(((Bw (Cj m x)).length:Nat):Int)) rfl rfl) ?_
   refine l_M (.bool ((((Bw (Bu x)).length:Nat):Int) == (((Bw (Cj m x)).length:Nat):Int))) (Ar rfl rfl rfl b71) rfl ?_
   refine Cn ((((Bw (Bu x)).length:Nat):Int) == (((Bw (Cj m x)).length:Nat):Int)) (fun b77=>?_) (fun b77=>?_)
   ·have q77:=Jo b77
    refine l_M v65 (Ar rfl rfl rfl b77) rfl ?_
    refine Aa (Ar rfl rfl rfl b77) (Ah (v:=vv58_3) h58_3) ?_
    refine Ae (Ar rfl rfl rfl b77) (Bn (vs:=[v65,vv58_3]) (v:=(iV ((Hb (Bw (Bu x)) (Bw (Cj m x)))))) (Ahe r65 VV58_3) Tryd.func90 rfl rfl ⟨rfl,rfl,trivial⟩ ?_)
    refine Aa (Ar rfl rfl rfl b77) (Da (p:=(Hb (Bw (Bu x)) (Bw (Cj m x)))) (q:=0) rfl rfl) ?_
    refine Aa (Ar rfl rfl rfl b71) (Bt rfl b77 (v:=(.bool (decide ((Hb (Bw (Bu x)) (Bw (Cj m x))) < 0)))) rfl) ?_
    refine Aa rfl (Bm rfl b71 (v:=(.bool (decide ((Hb (Bw (Bu x)) (Bw (Cj m x))) < 0)))) rfl) ?_
    refine l_A (.bool (decide ((Hb (Bw (Bu x)) (Bw (Cj m x))) < 0))) rfl rfl ?_
    apply Ac
    apply k68
    refine w_q rfl rfl fun K78 k78=>?_
    refine l_M (iV (Bq m (Bu x))) rfl rfl ?_
    refine Aa rfl (Ah (v:=(iV (g))) h58_2) ?_
    refine Aa rfl (Gk (p:=Bq m (Bu x)) (q:=g) rfl rfl) ?_
    refine l_M (.bool (decide (Bq m (Bu x) > g))) rfl rfl ?_
    refine Cn (decide (Bq m (Bu x) > g)) (fun b79=>?_) (fun b79=>?_)
    ·have q79:=of_decide_eq_true b79
     refine Ap (Bl rfl rfl rfl b79) ?_
     refine Ap (Bl rfl rfl rfl b79) ?_
     refine Ap (Bl rfl rfl rfl b79) ?_
     refine Ap (Bl rfl rfl rfl b79) ?_
     refine Ap (Jf rfl rfl rfl) ?_
     refine Ap (Bl rfl rfl rfl b79) ?_
     refine Aa rfl (Bt rfl b79 (v:=(.bool (true))) rfl) ?_
     apply Ac
     apply k78
     refine Co rfl rfl ?_
     refine Ag rfl rfl ?_
     refine l_M (iV (Bq m (Bu x))) rfl rfl ?_
     refine l_M v65 rfl rfl ?_
     refine l_A (iV (Bq m (Bu x))) rfl rfl ?_
     refine l_A v65 rfl rfl ?_
     apply Ac
     apply k62
     refine Ag rfl rfl ?_
     refine Aa rfl (Br (p:=(x:Int)) (q:=1) h58_24 rfl (z:=(((x + 1):Nat):Int)) ((Eu (by omega) (by omega)).trans (by push_cast; rfl))) ?_
     refine l_M (.int .u64 ((((x + 1):Nat):Int))) rfl rfl ?_
     apply Ac
     refine ⟨_,?_,((x + 1)),(Bq m (Bu x)),v65,rfl,rfl,(Arz l58 l65),rfl,h58_6,h58_23,rfl,rfl,rfl,(by omega),(by rw [Dy (by unfold Bv Cr; rw [← Cf]; omega)]),(Val.cast (by rw [Dy (by unfold Bv Cr; rw [← Cf]; omega)]) r65),trivial⟩
     omega
    have q79:=of_decide_eq_false b79
    refine l_M (iV (Bq m (Bu x))) (Ar rfl rfl rfl b79) rfl ?_
    refine Aa (Ar rfl rfl rfl b79) (Ah (v:=(iV (g))) h58_2) ?_
    refine Aa (Ar rfl rfl rfl b79) (Ek (p:=Bq m (Bu x)) (q:=g) rfl rfl) ?_
    refine l_M (.bool (Bq m (Bu x) == g)) (Ar rfl rfl rfl b79) rfl ?_
    refine Cn (Bq m (Bu x) == g) (fun b80=>?_) (fun b80=>?_)
    ·have q80:=Jo b80
     refine l_M (.bool (decide ((Hb (Bw (Bu x)) (Bw (Cj m x))) < 0))) (Ar rfl rfl rfl b80) rfl ?_
     refine Aa (Ar rfl rfl rfl b79) (Bt rfl b80 (v:=(.bool (decide ((Hb (Bw (Bu x)) (Bw (Cj m x))) < 0)))) rfl) ?_
     refine Aa rfl (Bm rfl b79 (v:=(.bool (decide ((Hb (Bw (Bu x)) (Bw (Cj m x))) < 0)))) rfl) ?_
     apply Ac
     apply k78
     refine As (t:=decide ((Hb (Bw (Bu x)) (Bw (Cj m x))) < 0)) rfl (fun b81=>?_) (fun b81=>?_)
     ·have q81:=of_decide_eq_true b81
      refine Ag rfl rfl ?_
      refine l_M (iV (Bq m (Bu x))) rfl rfl ?_
      refine l_M v65 rfl rfl ?_
      refine l_A (iV (Bq m (Bu x))) rfl rfl ?_
      refine l_A v65 rfl rfl ?_
      apply Ac
      apply k62
      refine Ag rfl rfl ?_
      refine Aa rfl (Br (p:=(x:Int)) (q:=1) h58_24 rfl (z:=(((x + 1):Nat):Int)) ((Eu (by omega) (by omega)).trans (by push_cast; rfl))) ?_
      refine l_M (.int .u64 ((((x + 1):Nat):Int))) rfl rfl ?_
      apply Ac
      refine ⟨_,?_,((x + 1)),(Bq m (Bu x)),v65,rfl,rfl,(Arz l58 l65),rfl,h58_6,h58_23,rfl,rfl,rfl,(by omega),(by rw [Dy (by unfold Bv Cr; rw [← Cf]; omega)]),(Val.cast (by rw [Dy (by unfold Bv Cr; rw [← Cf]; omega)]) r65),trivial⟩
      omega
     have q81:=of_decide_eq_false b81
     refine Al ?_
     apply k62
     refine Ag rfl rfl ?_
     refine Aa rfl (Br (p:=(x:Int)) (q:=1) h58_24 rfl (z:=(((x + 1):Nat):Int)) ((Eu (by omega) (by omega)).trans (by push_cast; rfl))) ?_
     refine l_M (.int .u64 ((((x + 1):Nat):Int))) rfl rfl ?_
     apply Ac
     refine ⟨_,?_,((x + 1)),(g),vv58_3,rfl,rfl,(Arz l58 l65),rfl,h58_6,h58_23,h58_2,h58_3,rfl,(by omega),(by rw [Ea (by unfold Bv Cr; rw [← Cf]; omega)]; exact p58_1),(Val.cast (by rw [Ea (by unfold Bv Cr; rw [← Cf]; omega)]) VV58_3),trivial⟩
     omega
    have q80:=La b80
    refine Ap (Bl rfl rfl rfl b80) ?_
    refine Aa (Ar rfl rfl rfl b79) (Bm rfl b80 (v:=(.bool (false))) rfl) ?_
    refine Aa rfl (Bm rfl b79 (v:=(.bool (false))) rfl) ?_
    apply Ac
    apply k78
    refine Cg rfl rfl ?_
    refine Al ?_
    apply k62
    refine Ag rfl rfl ?_
    refine Aa rfl (Br (p:=(x:Int)) (q:=1) h58_24 rfl (z:=(((x + 1):Nat):Int)) ((Eu (by omega) (by omega)).trans (by push_cast; rfl))) ?_
    refine l_M (.int .u64 ((((x + 1):Nat):Int))) rfl rfl ?_
    apply Ac
    refine ⟨_,?_,((x + 1)),(g),vv58_3,rfl,rfl,(Arz l58 l65),rfl,h58_6,h58_23,h58_2,h58_3,rfl,(by omega),(by rw [Ea (by unfold Bv Cr; rw [← Cf]; omega)]; exact p58_1),(Val.cast (by rw [Ea (by unfold Bv Cr; rw [← Cf]; omega)]) VV58_3),trivial⟩
    omega
   have q77:=La b77
   refine Ap (Bl rfl rfl rfl b77) ?_
   refine Ap (Bl rfl rfl rfl b77) ?_
   refine Ap (Bl rfl rfl rfl b77) ?_
   refine Ap (Bl rfl rfl rfl b77) ?_
   refine Aa (Ar rfl rfl rfl b71) (Bm rfl b77 (v:=(.bool (false))) rfl) ?_
   refine Aa rfl (Bm rfl b71 (v:=(.bool (false))) rfl) ?_
   refine l_A (.bool (false)) rfl rfl ?_
   apply Ac
   apply k68
   refine w_q rfl rfl fun K82 k82=>?_
   refine l_M (iV (Bq m (Bu x))) rfl rfl ?_
   refine Aa rfl (Ah (v:=(iV (g))) h58_2) ?_
   refine Aa rfl (Gk (p:=Bq m (Bu x)) (q:=g) rfl rfl) ?_
   refine l_M (.bool (decide (Bq m (Bu x) > g))) rfl rfl ?_
   refine Cn (decide (Bq m (Bu x) > g)) (fun b83=>?_) (fun b83=>?_)
   ·have q83:=of_decide_eq_true b83
    refine Ap (Bl rfl rfl rfl b83) ?_
    refine Ap (Bl rfl rfl rfl b83) ?_
    refine Ap (Bl rfl rfl rfl b83) ?_
    refine Ap (Bl rfl rfl rfl b83) ?_
    refine Ap (Jf rfl rfl rfl) ?_
    refine Ap (Bl rfl rfl rfl b83) ?_
    refine Aa rfl (Bt rfl b83 (v:=(.bool (true))) rfl) ?_
    apply Ac
    apply k82
    refine Co rfl rfl ?_
    refine Ag rfl rfl ?_
    refine l_M (iV (Bq m (Bu x))) rfl rfl ?_
    refine l_M v65 rfl rfl ?_
    refine l_A (iV (Bq m (Bu x))) rfl rfl ?_
    refine l_A v65 rfl rfl ?_
    apply Ac
    apply k62
    refine Ag rfl rfl ?_
    refine Aa rfl (Br (p:=(x:Int)) (q:=1) h58_24 rfl (z:=(((x + 1):Nat):Int)) ((Eu (by omega) (by omega)).trans (by push_cast; rfl))) ?_
    refine l_M (.int .u64 ((((x + 1):Nat):Int))) rfl rfl ?_
    apply Ac
    refine ⟨_,?_,((x + 1)),(Bq m (Bu x)),v65,rfl,rfl,(Arz l58 l65),rfl,h58_6,h58_23,rfl,rfl,rfl,(by omega),(by rw [Dy (by unfold Bv Cr; rw [← Cf]; omega)]),(Val.cast (by rw [Dy (by unfold Bv Cr; rw [← Cf]; omega)]) r65),trivial⟩
    omega
   have q83:=of_decide_eq_false b83
   refine l_M (iV (Bq m (Bu x))) (Ar rfl rfl rfl b83) rfl ?_
   refine Aa (Ar rfl rfl rfl b83) (Ah (v:=(iV (g))) h58_2) ?_
   refine Aa (Ar rfl rfl rfl b83) (Ek (p:=Bq m (Bu x)) (q:=g) rfl rfl) ?_
   refine l_M (.bool (Bq m (Bu x) == g)) (Ar rfl rfl rfl b83) rfl ?_
   refine Cn (Bq m (Bu x) == g) (fun b84=>?_) (fun b84=>?_)
   ·have q84:=Jo b84
    refine l_M (.bool (false)) (Ar rfl rfl rfl b84) rfl ?_
    refine Aa (Ar rfl rfl rfl b83) (Bt rfl b84 (v:=(.bool (false))) rfl) ?_
    refine Aa rfl (Bm rfl b83 (v:=(.bool (false))) rfl) ?_
    apply Ac
    apply k82
    refine Cg rfl rfl ?_
    refine Al ?_
    apply k62
    refine Ag rfl rfl ?_
    refine Aa rfl (Br (p:=(x:Int)) (q:=1) h58_24 rfl (z:=(((x + 1):Nat):Int)) ((Eu (by omega) (by omega)).trans (by push_cast; rfl))) ?_
    refine l_M (.int .u64 ((((x + 1):Nat):Int))) rfl rfl ?_
    apply Ac
    refine ⟨_,?_,((x + 1)),(g),vv58_3,rfl,rfl,(Arz l58 l65),rfl,h58_6,h58_23,h58_2,h58_3,rfl,(by omega),(by rw [Ea (by unfold Bv Cr; rw [← Cf]; omega)]; exact p58_1),(Val.cast (by rw [Ea (by unfold Bv Cr; rw [← Cf]; omega)]) VV58_3),trivial⟩
    omega
   have q84:=La b84
   refine Ap (Bl rfl rfl rfl b84) ?_
   refine Aa (Ar rfl rfl rfl b83) (Bm rfl b84 (v:=(.bool (false))) rfl) ?_
   refine Aa rfl (Bm rfl b83 (v:=(.bool (false))) rfl) ?_
   apply Ac
   apply k82
   refine Cg rfl rfl ?_
   refine Al ?_
   apply k62
   refine Ag rfl rfl ?_
   refine Aa rfl (Br (p:=(x:Int)) (q:=1) h58_24 rfl (z:=(((x + 1):Nat):Int)) ((Eu (by omega) (by omega)).trans (by push_cast; rfl))) ?_
   refine l_M (.int .u64 ((((x + 1):Nat):Int))) rfl rfl ?_
   apply Ac
   refine ⟨_,?_,((x + 1)),(g),vv58_3,rfl,rfl,(Arz l58 l65),rfl,h58_6,h58_23,h58_2,h58_3,rfl,(by omega),(by rw [Ea (by unfold Bv Cr; rw [← Cf]; omega)]; exact p58_1),(Val.cast (by rw [Ea (by unfold Bv Cr; rw [← Cf]; omega)]) VV58_3),trivial⟩
   omega
  have q61:=of_decide_eq_false b61
  refine Bx ?_
  apply k53
  refine w_q rfl rfl fun K85 k85=>?_
  refine Aa rfl (Ah (v:=(iV (g))) h58_2) ?_
  refine Aa rfl (Ah (v:=vv58_3) h58_3) ?_
  refine l_A (iV (g)) rfl rfl ?_
  refine l_A vv58_3 rfl rfl ?_
  refine l_A (iV (0)) rfl rfl ?_
  apply Ac
  apply k85
  refine Aq ?_
  refine hret _ _ _ ?_
  refine ⟨(Arz (Arz (Arz l2 l50) l52) l58),rfl,vv58_3,Eq.trans (b:=(.tuple #[(iV (g)),vv58_3,(iV (0))])) (Mk (r:=2) (r':=3) (rs:=[4]) (v:=(iV (g))) (v':=vv58_3) (vs:=[(iV (0))]) ⟨rfl,rfl,rfl,trivial⟩) ?_,Val.cast ?_ VV58_3⟩
  ·rw [Aik,if_pos hm0,p58_1,show x = 2 ^ m.sales.length by omega,Mn hn8,hm0]
  ·rw [Aje,if_pos hm0,show x = 2 ^ m.sales.length by omega,Mn hn8]
end Go.Proofs.YtoefdnbaklajeaaDoor

namespace Go.Proofs.YtoefdnbaklajeaaDoor
open Go
theorem Aas {a x:Span} {p q:Int}:Sx a a x p = Sx a a x q:=by
 unfold Sx
 have h:∀ (r y:Int),r * y + (100 - r) * y = 100 * y:=fun r y=>by rw [← Int.add_mul]; congr 1; omega
 rw [h,h,h,h]
theorem Aar {f:FField} {marks:List Span} {p q:Int}:Gm f f marks p = Gm f f marks q:=by
 unfold Gm
 have e:Hm f f marks p = Hm f f marks q:=by
  funext k; unfold Hm; split
  ·rename_i a b x h1 h2 h3
   rw [h1] at h2; cases h2
   exact Aas
  ·rfl
 rw [e]
def Qc (m:Market) (marks:List Span):List Nat:=(List.range m.fields.length).filter (Iy m marks)
theorem Ry {m:Market} {marks:List Span} {i:Nat} {x:FField} (hx:m.fields[i]? = some x):Iy m marks i = Gm x x marks 100:=by
 unfold Iy; rw [hx]; exact Aar
theorem Zb {p:Nat→Bool} {i:Nat}:(List.range (i + 1)).filter p = (List.range i).filter p ++ (if p i then [i] else []):=by
 rw [List.range_succ,List.filter_append]; congr 1; cases h:p i <;> simp [h]
theorem Afd {p:Nat→Bool} {n i:Nat} (hi:i < n) (h:p i = true):(List.range n).filter p = (List.range i).filter p ++ i :: ((List.range' (i + 1) (n - 1 - i)).filter p):=by
 have e1:List.range n = List.range i ++ i :: List.range' (i + 1) (n - 1 - i):=by
  obtain ⟨d,rfl⟩:∃ d,n = i + (1 + d):=⟨n - 1 - i,by omega⟩
  rw [show i + (1 + d) - 1 - i = d by omega,List.range_eq_range',List.range_eq_range',← List.range'_append_1,← List.range'_append_1]
  simp
 rw [e1,List.filter_append,List.filter_cons,h,if_pos rfl]
set_option maxRecDepth 100000 in
theorem Amd {m:Market} {marks:List Span} {ρ₀:Ro} {vm vk:Value} (hm:At ρ₀ vm m) (hk:At ρ₀ vk marks) (ok:AskOk m marks) (okm:MarketOk m):IterF (.func (.func 111) #[] #[vm,vk]) ρ₀ ((Qc m marks).map (fun x:Nat=>Value.int .i64 (x:Int))):=by
 refine ⟨111,_,[vm,vk],rfl,Tryd.func111,rfl,rfl,?_⟩
 intro mn X l I ρ σ hle hmono hI hy
 replace hm:=hm.mono hle
 replace hk:=hk.mono hle
 have hn6:=okm.nfields
 refine Bh (n:=25) (args:=[(.func (.yield l) #[] #[]),vm,vk]) [] Tryd.func111 rfl rfl rfl rfl fun Q hret hnor=>?_
 refine w_q rfl rfl fun K1 k1=>?_
 refine Ak rfl (Ay Market.f_fields Tryd.underlying26 rfl rfl Se (by decide) rfl hm) fun v2 r2=>?_
 refine Ak rfl (Ax Se rfl r2) fun v3 r3=>?_
 have g4:=Val.len r3
 refine Aa rfl (Ce (el:=67) Tryd.underlying23 rfl r3) ?_
 refine l_M (iV (0)) rfl rfl ?_
 apply Ac
 apply k1
 refine Ao ?_
 refine Cc (fun mm ee dd ρ' σ'=>∃ (i:Nat) (σb5:Own),(m.fields.length - i) = mm∧[] = dd∧Ro.le ρ ρ'∧σb5 = σ'∧ee 0 = (.func (.yield l) #[] #[])∧ee 2 = vk∧ee 7 = v3∧ee 8 = (iV (((m.fields.length:Nat):Int)))∧ee 9 = (iV ((i:Int)))∧(i ≤ m.fields.length)∧I (((List.range i).filter (Iy m marks)).map (fun x:Nat=>Value.int .i64 (x:Int))) ρ' σb5∧True) (m:=_) ⟨0,σ,rfl,rfl,Ary,rfl,rfl,rfl,rfl,rfl,rfl,(Nat.zero_le _),hI,trivial⟩ ?_
 rintro m5 e5 _ ρ5 _ ⟨i,σb5,rfl,rfl,l5,rfl,h5_0,h5_2,h5_7,h5_8,h5_9,p5_0,IB5,_⟩
 replace hk:=Arv l5 hk
 replace r3:=Asa l5 r3
 refine w_q rfl rfl fun K6 k6=>?_
 refine Aa rfl (Da (p:=(i:Int)) (q:=((m.fields.length:Nat):Int)) h5_9 h5_8) ?_
 apply Ac
 apply k6
 refine Ai fun K7 k7=>?_
 refine As (t:=decide ((i:Int) < ((m.fields.length:Nat):Int))) rfl (fun b8=>?_) (fun b8=>?_)
 ·have q8:=of_decide_eq_true b8
  refine Al ?_
  apply k7
  refine Ai fun K9 k9=>?_
  refine Ao ?_
  refine w_q rfl rfl fun K10 k10=>?_
  refine Aa rfl (Ah (v:=(iV ((i:Int)))) h5_9) ?_
  obtain ⟨a12,ha12⟩:=Ed (xs:=m.fields) (i:=i) (by omega)
  refine Ak rfl (Ci i Tryd.underlying23 Ln h5_7 r3 (q:=(i:Int)) h5_9 rfl ha12) fun v11 r11=>?_
  refine Ak rfl (Ax Ln rfl r11) fun v13 r13=>?_
  refine Ae rfl (Ct Xg fun k14=>?_)
  refine l_A (iV ((i:Int))) rfl rfl ?_
  refine Cx rfl (Du (v:=v13) (a:=a12) (c:=Zu) Ln rfl rfl r13 rfl ?_)
  refine Bb (a:=a12) r13 fun ρ15 l15 r15=>?_
  replace hk:=Arv l15 hk
  replace r3:=Asa l15 r3
  replace IB5:=hmono _ _ _ _ l15 IB5
  replace r11:=Arv l15 r11
  replace r13:=Asa l15 r13
  apply Ac
  apply k10
  refine w_q rfl rfl fun K16 k16=>?_
  refine Ak rfl (Ax Ty h5_2 hk) fun v17 r17=>?_
  refine Ak rfl (Ax Ln rfl r15) fun v18 r18=>?_
  refine Ak rfl (Ax Ln rfl r15) fun v19 r19=>?_
  refine Ae rfl (Bn (vs:=[v17,v18,v19,(iV (100))]) (v:=(.bool (Gm a12 a12 marks 100))) (Acs r17 r18 r19 (ok.fields _ _ ha12) (ok.fields _ _ ha12) ok.marks (by omega)) Tryd.func65 rfl rfl ⟨rfl,rfl,rfl,rfl,trivial⟩ ?_)
  refine l_M (.bool (Gm a12 a12 marks 100)) rfl rfl ?_
  refine Cn (Gm a12 a12 marks 100) (fun b20=>?_) (fun b20=>?_)
  ·refine Aa (Ar rfl rfl rfl b20) (Ah (v:=(.func (.yield l) #[] #[])) h5_0) ?_
   refine l_M (iV ((i:Int))) (Ar rfl rfl rfl b20) rfl ?_
   have hor:=(Ry (marks:=marks) ha12).trans b20
   refine Ae (Ar rfl rfl rfl b20) (Xj (v:=(iV ((i:Int)))) rfl rfl (hy (((List.range i).filter (Iy m marks)).map (fun x:Nat=>Value.int .i64 (x:Int))) (iV ((i:Int))) (((List.range' (i + 1) (m.fields.length - 1 - i)).filter (Iy m marks)).map (fun x:Nat=>Value.int .i64 (x:Int))) _ _ (by unfold Qc; rw [Afd (by omega) hor,List.map_append,List.map_cons]) (Arz l5 l15) IB5) fun w21 ρ21 σ21 hc21=>?_)
   obtain ⟨hw21,l21,I21⟩:=hc21
   subst hw21
   replace hk:=Arv l21 hk
   replace r3:=Asa l21 r3
   replace r15:=Arv l21 r15
   replace r17:=Asa l21 r17
   replace r18:=Asa l21 r18
   replace r19:=Asa l21 r19
   refine Aa (Ar rfl rfl rfl b20) (Ix (k:=true) rfl) ?_
   refine Aa rfl (Bt rfl b20 (v:=(.bool (!(true)))) rfl) ?_
   apply Ac
   apply k16
   refine Cg rfl (not_t rfl) ?_
   refine Al ?_
   apply k9
   refine Ag rfl rfl ?_
   refine Aa rfl (Br (p:=(i:Int)) (q:=1) h5_9 rfl (z:=(((i + 1):Nat):Int)) (Bo (by first | rfl | omega | (push_cast; rfl)) (by omega) (by omega))) ?_
   refine l_M (iV ((((i + 1):Nat):Int))) rfl rfl ?_
   apply Ac
   refine ⟨_,?_,((i + 1)),σ21,rfl,rfl,(Arz (Arz l5 l15) l21),rfl,h5_0,h5_2,h5_7,h5_8,rfl,(by omega),(Yy (by rw [Zb,hor,if_pos rfl,List.map_append]; rfl) I21),trivial⟩
   omega
  refine Ap (Bl rfl rfl rfl b20) ?_
  refine Ap (Bl rfl rfl rfl b20) ?_
  refine Ap (Bl rfl rfl rfl b20) ?_
  refine Ap (Bl rfl rfl rfl b20) ?_
  refine Aa rfl (Bm rfl b20 (v:=(.bool (false))) rfl) ?_
  apply Ac
  apply k16
  refine Cg rfl rfl ?_
  refine Al ?_
  apply k9
  refine Ag rfl rfl ?_
  refine Aa rfl (Br (p:=(i:Int)) (q:=1) h5_9 rfl (z:=(((i + 1):Nat):Int)) (Bo (by first | rfl | omega | (push_cast; rfl)) (by omega) (by omega))) ?_
  refine l_M (iV ((((i + 1):Nat):Int))) rfl rfl ?_
  apply Ac
  refine ⟨_,?_,((i + 1)),σb5,rfl,rfl,(Arz l5 l15),rfl,h5_0,h5_2,h5_7,h5_8,rfl,(by omega),(Yy (by rw [Zb,Ry ha12,b20,if_neg (by simp),List.append_nil]) IB5),trivial⟩
  omega
 have q8:=of_decide_eq_false b8
 refine Bx ?_
 refine hnor _ _ _ ?_
 refine ⟨l5,?_⟩
 rw [Qc,show m.fields.length = i by omega]; exact IB5
set_option maxRecDepth 100000 in
theorem Aem {mn:Bool} {X:Frame→List Frame→Ro→Own→Cy→Prop} {ρ:Ro} {σ:Own} {m:Market} {marks:List Span} {vm vk:Value} (rm:Val ρ vm m) (rk:Val ρ vk marks) (ok:AskOk m marks) (okm:MarketOk m):CallsH (CX mn X) 63 #[vm,vk] ρ σ (fun w ρ' σ'=>Ro.le ρ ρ'∧σ' = σ∧IterF w ρ' ((Qc m marks).map (fun x:Nat=>Value.int .i64 (x:Int)))):=by
 refine Bh (n:=6) (args:=[vm,vk]) [4] Tryd.func63 rfl rfl rfl rfl fun Q hret hnor=>?_
 refine w_q rfl rfl fun K1 k1=>?_
 refine Ae rfl (Eb (v:=vm) rfl fun k2=>?_)
 refine Bb (a:=m) rm fun ρ2 l2 r2=>?_
 replace rm:=Asa l2 rm
 replace rk:=Asa l2 rk
 refine Ae rfl (Eb (v:=vk) rfl fun k3=>?_)
 refine Bb (a:=marks) rk fun ρ3 l3 r3=>?_
 replace rm:=Asa l3 rm
 replace rk:=Asa l3 rk
 replace r2:=Arv l3 r2
 refine l_A .nilFunc rfl rfl ?_
 apply Ac
 apply k1
 refine w_q rfl rfl fun K4 k4=>?_
 refine Aa rfl (Ic (fn:=.func 111) (caps:=[.tmp 2,.tmp 3]) (vs:=[(.pointer (some ⟨k2,0,none⟩)),(.pointer (some ⟨k3,0,none⟩))]) ⟨rfl,rfl,trivial⟩) ?_
 refine l_A (.func (.func 111) #[] #[(.pointer (some ⟨k2,0,none⟩)),(.pointer (some ⟨k3,0,none⟩))]) rfl rfl ?_
 apply Ac
 apply k4
 refine Aq ?_
 refine hret _ _ _ ?_
 refine ⟨(Arz l2 l3),rfl,?_⟩
 exact Amd r2 r3 ok okm
set_option maxRecDepth 100000 in
theorem Zf {mn:Bool} {X:Frame→List Frame→Ro→Own→Cy→Prop} {ρ:Ro} {σ:Own} {xs:List Nat} {vf:Value} (hf:IterF vf ρ (xs.map (fun x:Nat=>Value.int .i64 (x:Int)))) (hn:xs.length ≤ 100) (hx:∀ a ∈ xs,a < 1000):CallsH (CX mn X) 110 #[(.slice none 0 0),vf] ρ σ (fun w ρ' σ'=>Ro.le ρ ρ'∧σ' = σ∧Val ρ' w (Bw xs:List Int)):=by
 refine Oh (n:=13) (args:=[(.slice none 0 0),vf]) [4] Tryd.func110 rfl rfl rfl rfl fun Q hret hnor=>?_
 refine w_q rfl rfl fun K1 k1=>?_
 refine Ae rfl (Eb (v:=(.slice none 0 0)) rfl fun k2=>?_)
 refine l_A (.slice none 0 0) rfl rfl ?_
 apply Ac
 apply k1
 refine Ai fun K3 k3=>?_
 refine w_q rfl rfl fun K4 k4=>?_
 refine l_M vf rfl rfl ?_
 apply Ac
 apply k4
 refine Ao ?_
 refine Hr (ys:=(xs).map (fun x:Nat=>Value.int .i64 (x:Int))) (fun pre ρ' τ=>∃ (l1:List Nat) (ov5_2c0:Value) (og5_2c0:Own),pre = l1.map (fun x:Nat=>Value.int .i64 (x:Int))∧(og5_2c0 ++ ((k2,Res.obj (Obj.cells #[ov5_2c0] 30 (0,0))) :: σ)) = τ∧Grow ρ' 3 ov5_2c0 (Bw l1) og5_2c0∧True) rfl rfl (Nat.le_of_ble_eq_true rfl) rfl hf ?_ ?_ ?_ ?_
 ·rintro pre ρa ρb σa hle ⟨l1,ov5_2c0,og5_2c0,h1,h2,OG5_2c0,_⟩; exact ⟨l1,ov5_2c0,og5_2c0,h1,h2,OG5_2c0.mono hle,trivial⟩
 ·exact ⟨[],(.slice none 0 0),[],rfl,rfl,Hn,trivial⟩
 ·rintro l5_ _ x5 post5 ρ5 _ hys5 l5 ⟨l1,ov5_2c0,og5_2c0,rfl,rfl,OG5_2c0,_⟩ pfx5
  obtain ⟨a5,l2_5,hl5,rfl⟩:=Lu Zd hys5
  replace hf:=IterF.mono l5 hf
  refine Aj (σ':=(og5_2c0 ++ ((k2,Res.obj (Obj.cells #[ov5_2c0] 30 (0,0))) :: (pfx5 ++ σ)))) (Arx (by simpa only [List.append_assoc,List.cons_append,List.nil_append] using Fc pfx5 ((og5_2c0 ++ [(k2,Res.obj (Obj.cells #[ov5_2c0] 30 (0,0)))])) σ)) ?_
  have hlx:=congrArg List.length hl5
  have hil:=Fe (l:=l1)
  have hax:=hx a5 (by rw [hl5]; simp)
  simp only [List.length_append,List.length_cons] at hlx
  refine Ag rfl rfl ?_
  refine l_A (iV ((a5:Int))) rfl rfl ?_
  refine Bj (σ':=pfx5 ++ (og5_2c0 ++ ((k2,Res.obj (Obj.cells #[ov5_2c0] 30 (0,0))) :: σ))) (Arx (by simpa only [List.append_assoc,List.cons_append,List.nil_append] using Fc ((og5_2c0 ++ [(k2,Res.obj (Obj.cells #[ov5_2c0] 30 (0,0)))])) pfx5 σ)) ?_
  apply Ac
  refine ⟨rfl,rfl,Ary,_,rfl,?_⟩
  intro pfy5
  refine Aj (σ':=(og5_2c0 ++ ((k2,Res.obj (Obj.cells #[ov5_2c0] 30 (0,0))) :: (pfy5 ++ σ)))) (Arx (by simpa only [List.append_assoc,List.cons_append,List.nil_append] using Fc pfy5 ((og5_2c0 ++ [(k2,Res.obj (Obj.cells #[ov5_2c0] 30 (0,0)))])) σ)) ?_
  refine Ao ?_
  refine Ag rfl rfl ?_
  refine Ae rfl (Gv (v:=ov5_2c0) ⟨_,Tryd.underlying30,rfl⟩ rfl (List.mem_append_right _ (List.mem_cons_self ..)) rfl ?_)
  refine l_M (iV ((a5:Int))) rfl rfl ?_
  refine Ae rfl (Bi (α:=Int) (xs:=[(a5:Int)]) (vs:=[(iV ((a5:Int)))]) Tryd.underlying30 ty3 zr3 rfl (by decide) (Dl (os:=[.tmp 9]) ⟨rfl,trivial⟩) ⟨(Cv.2 ⟨rfl,by constructor <;> omega⟩),trivial⟩ rfl (by decide) fun k6 cs6 R6=>?_)
  have G6:Grow ρ5 3 (.slice (some ⟨k6,0,none⟩) 1 1) ([(a5:Int)]:List Int) [(k6,.obj (.cells cs6.toArray 3 (0,0)))]:=Bs R6 rfl (by decide)
  refine Ca G6 fun ρ8 l8 r8=>?_
  replace OG5_2c0:=Grow.mono l8 OG5_2c0
  refine Ae rfl (Fx (σ:=((k2,Res.obj (Obj.cells #[ov5_2c0] 30 (0,0))) :: (pfy5 ++ σ))) (gr:=og5_2c0) (xs:=Bw l1) (ys:=([(a5:Int)]:List Int)) Tryd.underlying30 Tryd.underlying30 (Ab Tryd.typeInfo3) rfl (Nat.le_of_ble_eq_true rfl) rfl rfl rfl rfl OG5_2c0 r8 (by simp only [List.length_append,List.length_cons,List.length_nil]; omega) fun v7 gr7 G7=>?_)
  refine Bj (σ':=((k2,Res.obj (Obj.cells #[ov5_2c0] 30 (0,0))) :: (gr7 ++ (pfy5 ++ σ)))) (Arx (List.perm_append_comm_assoc gr7 ([(k2,Res.obj (Obj.cells #[ov5_2c0] 30 (0,0)))]) _)) ?_
  refine Cx rfl (Cz (j:=0) (v:=v7) ⟨_,Ab Tryd.typeInfo30,rfl⟩ rfl rfl (Grow.single G7) rfl (Nat.le_of_ble_eq_true rfl) ?_)
  refine Bj (σ':=(gr7 ++ ((k2,Res.obj (Obj.cells #[v7] 30 (0,0))) :: (pfy5 ++ σ)))) (Arx (List.perm_append_comm_assoc ([(k2,Res.obj (Obj.cells #[v7] 30 (0,0)))]) gr7 _)) ?_
  refine Bj (σ':=pfy5 ++ (gr7 ++ ((k2,Res.obj (Obj.cells #[v7] 30 (0,0))) :: σ))) (Arx (by simpa only [List.append_assoc,List.cons_append,List.nil_append] using Fc ((gr7 ++ [(k2,Res.obj (Obj.cells #[v7] 30 (0,0)))])) pfy5 σ)) ?_
  apply Ac
  refine ⟨rfl,l8,_,rfl,l1 ++ [a5],v7,gr7,(by simp),rfl,(Ga (by simp [Bw]) G7),trivial⟩
 ·rintro k9 ρ9 _ l9 ⟨l1,ov5_2c0,og5_2c0,hpre9,rfl,OG5_2c0,_⟩
  obtain rfl:=Nf Zd hpre9
  replace hf:=IterF.mono l9 hf
  apply k3
  refine w_q rfl rfl fun K10 k10=>?_
  refine Ae rfl (Gv (v:=ov5_2c0) ⟨_,Tryd.underlying30,rfl⟩ rfl (List.mem_cons_of_mem _ (List.mem_append_right _ (List.mem_cons_self ..))) rfl ?_)
  refine l_A ov5_2c0 rfl rfl ?_
  apply Ac
  apply k10
  refine Aj (σ':=(og5_2c0 ++ ((k9,Res.obj (Obj.deferred (some []))) :: ((k2,Res.obj (Obj.cells #[ov5_2c0] 30 (0,0))) :: σ)))) (Arx (List.perm_append_comm_assoc ([(k9,Res.obj (Obj.deferred (some [])))]) og5_2c0 _)) ?_
  refine Gy OG5_2c0 fun ρ11 l11 r11=>?_
  refine Aj (σ':=((k2,Res.obj (Obj.cells #[ov5_2c0] 30 (0,0))) :: ((k9,Res.obj (Obj.deferred (some []))) :: σ))) (Arx (List.perm_append_comm_assoc ([(k9,Res.obj (Obj.deferred (some [])))]) ([(k2,Res.obj (Obj.cells #[ov5_2c0] 30 (0,0)))]) _)) ?_
  refine Aj Ghost.drop ?_
  refine Aq ?_
  refine hret _ _ _ _ ?_
  refine ⟨(Arz l9 l11),rfl,Aci (v:=ov5_2c0) rfl (Val.cast ?_ r11)⟩
  ·rfl
set_option maxRecDepth 100000 in
theorem Aeb {mn:Bool} {X:Frame→List Frame→Ro→Own→Cy→Prop} {ρ:Ro} {σ:Own} {xs:List Nat} {vf:Value} (hf:IterF vf ρ (xs.map (fun x:Nat=>Value.int .i64 (x:Int)))) (hn:xs.length ≤ 100) (hx:∀ a ∈ xs,a < 1000):CallsH (CX mn X) 62 #[vf] ρ σ (fun w ρ' σ'=>Ro.le ρ ρ'∧σ' = σ∧Val ρ' w (Bw xs:List Int)):=by
 refine Bh (n:=5) (args:=[vf]) [2] Tryd.func62 rfl rfl rfl rfl fun Q hret hnor=>?_
 refine w_q rfl rfl fun K1 k1=>?_
 refine l_A (.slice none 0 0) rfl rfl ?_
 apply Ac
 apply k1
 refine w_q rfl rfl fun K2 k2=>?_
 refine l_M vf rfl rfl ?_
 refine Ae rfl (Cm (vs:=[(.slice none 0 0),vf]) (Zf hf hn hx) Tryd.func110 rfl rfl ⟨rfl,rfl,trivial⟩ fun v3 ρ3 σ3 hc3=>?_)
 obtain ⟨l3,s3,r3⟩:=hc3
 replace s3:=s3.symm; subst s3
 replace hf:=IterF.mono l3 hf
 refine l_A v3 rfl rfl ?_
 apply Ac
 apply k2
 refine Aq ?_
 refine hret _ _ _ ?_
 refine ⟨l3,rfl,Aci (v:=v3) rfl (Val.cast ?_ r3)⟩
 ·rfl
set_option maxRecDepth 100000 in
theorem Ajp {mn:Bool} {X:Frame→List Frame→Ro→Own→Cy→Prop} {ρ:Ro} {σ:Own} {m:Market} {vm:Value} {marks:List Span} {vk:Value} (rm:Val ρ vm m) (rk:Val ρ vk marks):CallsH (CX mn X) 18 #[vm,vk] ρ σ (fun w ρ' σ'=>Ro.le ρ ρ'∧σ' = σ∧∃ v0,w = (.tuple #[v0,(iV (Sq m marks))])∧Val ρ' v0 (Sj m marks:List Int)):=by
 refine Bh (n:=17) (args:=[vm,vk]) [4,5] Tryd.func18 rfl rfl rfl rfl fun Q hret hnor=>?_
 refine w_q rfl rfl fun K1 k1=>?_
 refine Ae rfl (Eb (v:=vm) rfl fun k2=>?_)
 refine Bb (a:=m) rm fun ρ2 l2 r2=>?_
 replace rm:=Asa l2 rm
 replace rk:=Asa l2 rk
 refine l_A (.slice none 0 0) rfl rfl ?_
 refine l_A (iV (0)) rfl rfl ?_
 apply Ac
 apply k1
 refine Ai fun K3 k3=>?_
 refine w_q rfl rfl fun K4 k4=>?_
 refine Ak rfl (Ax Lj rfl r2) fun v5 r5=>?_
 refine l_M vk rfl rfl ?_
 refine Ae rfl (Bn (vs:=[v5,vk]) (v:=(iV (Ee m marks))) (Amu r5 rk) Tryd.func61 rfl rfl ⟨rfl,rfl,trivial⟩ ?_)
 refine l_A (iV (Ee m marks)) rfl rfl ?_
 apply Ac
 apply k4
 refine w_q rfl rfl fun K6 k6=>?_
 refine l_M (iV (Ee m marks)) rfl rfl ?_
 refine Aa rfl (Dg (p:=Ee m marks) (q:=0) rfl rfl) ?_
 apply Ac
 apply k6
 refine As (t:=Ee m marks != 0) rfl (fun b7=>?_) (fun b7=>?_)
 ·have q7:=Mb b7
  refine w_q rfl rfl fun K8 k8=>?_
  refine l_M (iV (Ee m marks)) rfl rfl ?_
  refine l_A (.slice none 0 0) rfl rfl ?_
  refine l_A (iV (Ee m marks)) rfl rfl ?_
  apply Ac
  apply k8
  refine Aq ?_
  refine hret _ _ _ ?_
  refine ⟨l2,rfl,(.slice none 0 0),Eq.trans (b:=(.tuple #[(.slice none 0 0),(iV (Ee m marks))])) (Mk (r:=4) (r':=5) (rs:=[]) (v:=(.slice none 0 0)) (v':=(iV (Ee m marks))) (vs:=[]) ⟨rfl,rfl,trivial⟩) ?_,Val.cast ?_ Gx⟩
  ·rw [Sq,Rx q7]
  ·rw [Sj,if_neg q7]
 have ha0:=Jh b7
 obtain ⟨ok,okm⟩:=Zm ha0
 have hn6:=okm.nfields
 have q7:=Jh b7
 refine Al ?_
 apply k3
 refine w_q rfl rfl fun K9 k9=>?_
 refine Ak rfl (Ax Lj rfl r2) fun v10 r10=>?_
 refine l_M vk rfl rfl ?_
 refine Ae rfl (Cm (vs:=[v10,vk]) (Aem r10 rk ok okm) Tryd.func63 rfl rfl ⟨rfl,rfl,trivial⟩ fun v11 ρ11 σ11 hc11=>?_)
 obtain ⟨l11,s11,r11⟩:=hc11
 replace s11:=s11.symm; subst s11
 replace rk:=Asa l11 rk
 replace r2:=Arv l11 r2
 replace r10:=Asa l11 r10
 refine Ae rfl (Cm (vs:=[v11]) (Aeb r11 (by have:=List.length_filter_le (Iy m marks) (List.range m.fields.length); rw [List.length_range] at this; unfold Qc; omega) (fun a ha=>by have:=(List.mem_filter.1 ha).1; rw [List.mem_range] at this; omega)) Tryd.func62 rfl rfl ⟨rfl,trivial⟩ fun v12 ρ12 σ12 hc12=>?_)
 obtain ⟨l12,s12,r12⟩:=hc12
 replace s12:=s12.symm; subst s12
 replace rk:=Asa l12 rk
 replace r2:=Arv l12 r2
 replace r10:=Asa l12 r10
 replace r11:=IterF.mono l12 r11
 refine l_A v12 rfl rfl ?_
 refine l_A (iV (0)) rfl rfl ?_
 apply Ac
 apply k9
 refine Aq ?_
 refine hret _ _ _ ?_
 refine ⟨(Arz (Arz l2 l11) l12),rfl,v12,Eq.trans (b:=(.tuple #[v12,(iV (0))])) (Mk (r:=4) (r':=5) (rs:=[]) (v:=v12) (v':=(iV (0))) (vs:=[]) ⟨rfl,rfl,trivial⟩) ?_,Val.cast ?_ r12⟩
 ·rw [Sq,Gt q7]
 ·rw [Sj,if_pos q7]; rfl
end Go.Proofs.YtoefdnbaklajeaaDoor

namespace Go.Proofs.YtoefdnbaklajeaaDoor
open Go
def Ts:Lab:=⟨[(ByteArray.mk #[100,121,101]),(ByteArray.mk #[104,111,110,101,121]),(ByteArray.mk #[111,108,100])],2,[⟨(ByteArray.mk #[119,97,116,101,114]),[1,0,2],false⟩,⟨(ByteArray.mk #[115,109,101,108,108]),[2,2,1],false⟩,⟨(ByteArray.mk #[119,101,105,103,104,116]),[2,1,2],false⟩]⟩
def Ff:Market:=⟨[(ByteArray.mk #[97,110,97]),(ByteArray.mk #[114,117,105]),(ByteArray.mk #[115,111,108])],[(ByteArray.mk #[105,114,111,110]),(ByteArray.mk #[115,97,108,116])],[⟨(ByteArray.mk #[104,105,108,108]),0,⟨90,100⟩,[⟨10,20⟩,⟨5,9⟩]⟩,⟨(ByteArray.mk #[108,111,119]),1,⟨40,50⟩,[⟨30,40⟩,⟨5,6⟩]⟩,⟨(ByteArray.mk #[101,97,115,116]),2,⟨60,70⟩,[⟨10,15⟩,⟨20,30⟩]⟩],[⟨120,[0,1]⟩,⟨60,[1]⟩,⟨50,[2]⟩]⟩
set_option maxRecDepth 100000 in
theorem Hy {mn:Bool} {X:Frame→List Frame→Ro→Own→Cy→Prop} {ρ:Ro} {σ:Own} {a b:Int} (ha:I64 a) (hb:I64 b):CallsH (CX mn X) 34 #[(iV (a)),(iV (b))] ρ σ (fun w ρ' σ'=>Ro.le ρ ρ'∧σ' = σ∧Val ρ' w ((⟨a,b⟩:Span):Span)):=by
 obtain ⟨ha1,ha2⟩:=ha
 obtain ⟨hb1,hb2⟩:=hb
 refine Mc (n:=8) (args:=[(iV (a)),(iV (b))]) [.cell 4 65] Tryd.func34 rfl rfl rfl rfl fun Q hret hnor=>?_
 refine w_q rfl rfl fun K1 k1=>?_
 refine Ae rfl (Ct Yn fun k2=>?_)
 apply Ac
 apply k1
 refine w_q rfl rfl fun K3 k3=>?_
 refine l_M (iV (a)) rfl rfl ?_
 refine l_M (iV (b)) rfl rfl ?_
 have r4:Val ρ (.agg #[(iV (a)),(iV (b))]) (⟨a,b⟩:Span):=Span.shut (x:=(⟨a,b⟩:Span)) (show I64 (a) from by constructor <;> omega) (show I64 (b) from by constructor <;> omega)
 refine Aa rfl (Dm (ns:=[1,1]) (vs:=[(0,(iV (a))),(1,(iV (b)))]) (zc:=Arg) (cs:=[(iV (a)),(iV (b))]) Tryd.underlying65 Yn rfl ⟨⟨_,Ab Tryd.typeInfo3,rfl⟩,⟨_,Ab Tryd.typeInfo3,rfl⟩,trivial⟩ (EvB.map ⟨⟨rfl,rfl⟩,⟨rfl,rfl⟩,trivial⟩) ((Bd (cs:=[(iV (a))]) rfl rfl (Nat.le_of_ble_eq_true rfl)).trans ((Bd (cs:=[(iV (b))]) rfl rfl (Nat.le_of_ble_eq_true rfl)).trans rfl))) ?_
 refine Cx rfl (Ld (i:=0) (vs:=[(iV (a)),(iV (b))]) (c':=[(iV (a)),(iV (b))]) ⟨_,Ab Tryd.typeInfo65,rfl⟩ rfl rfl rfl rfl (Xv ⟨rfl,rfl,trivial⟩) rfl (Nat.le_of_ble_eq_true rfl) rfl ?_)
 apply Ac
 apply k3
 refine Aq ?_
 have r5:Val ρ (.agg #[(iV (a)),(iV (b))]) (⟨a,b⟩:Span):=Span.shut (x:=(⟨a,b⟩:Span)) (show I64 (a) from by constructor <;> omega) (show I64 (b) from by constructor <;> omega)
 refine hret _ _ _ _ _ [(.agg #[(iV (a)),(iV (b))])] ⟨(Qm ⟨_,Tryd.underlying65,rfl⟩ ⟨_,Ab Tryd.typeInfo65,rfl⟩ rfl (i:=0) rfl rfl),trivial⟩ Ghost.drop ?_
 refine ⟨Ary,rfl,Aci (v:=(.agg #[(iV (a)),(iV (b))])) rfl (Val.cast ?_ r5)⟩
 ·rfl
set_option maxRecDepth 100000 in
theorem Ano {mn:Bool} {X:Frame→List Frame→Ro→Own→Cy→Prop} {ρ:Ro} {σ:Own}  :CallsH (CX mn X) 59 #[] ρ σ (fun w ρ' σ'=>Ro.le ρ ρ'∧σ' = σ∧Val ρ' w (Ts:Lab)):=by
 refine Mc (n:=10) (args:=[]) [.cell 0 40] Tryd.func59 rfl rfl rfl rfl fun Q hret hnor=>?_
 refine w_q rfl rfl fun K1 k1=>?_
 refine Ae rfl (Ct Anm fun k2=>?_)
 apply Ac
 apply k1
 refine w_q rfl rfl fun K3 k3=>?_
 refine Ae rfl (Bi (α:=ByteArray) (xs:=[(ByteArray.mk #[100,121,101]),(ByteArray.mk #[104,111,110,101,121]),(ByteArray.mk #[111,108,100])]) (vs:=[(.string ((ByteArray.mk #[100,121,101]))),(.string ((ByteArray.mk #[104,111,110,101,121]))),(.string ((ByteArray.mk #[111,108,100])))]) Tryd.underlying22 ty9 zr9 rfl (by decide) (Dl (os:=[.const (.string (ByteArray.mk #[100,121,101])),.const (.string (ByteArray.mk #[104,111,110,101,121])),.const (.string (ByteArray.mk #[111,108,100]))]) ⟨rfl,rfl,rfl,trivial⟩) ⟨(Jk.2 ⟨rfl,Nat.le_of_ble_eq_true rfl⟩),(Jk.2 ⟨rfl,Nat.le_of_ble_eq_true rfl⟩),(Jk.2 ⟨rfl,Nat.le_of_ble_eq_true rfl⟩),trivial⟩ rfl (by decide) fun k4 cs4 R4=>?_)
 have G4:Grow ρ 9 (.slice (some ⟨k4,0,none⟩) 3 3) ([(ByteArray.mk #[100,121,101]),(ByteArray.mk #[104,111,110,101,121]),(ByteArray.mk #[111,108,100])]:List ByteArray) [(k4,Res.obj (.cells cs4.toArray 9 (0,0)))]:=Bs R4 rfl (by decide)
 refine Ae rfl (Bi (α:=Int) (xs:=[1,0,2]) (vs:=[(iV (1)),(iV (0)),(iV (2))]) Tryd.underlying46 Ov Abg rfl (by decide) (Dl (os:=[.const (.int .i64 1),.const (.int .i64 0),.const (.int .i64 2)]) ⟨rfl,rfl,rfl,trivial⟩) ⟨(Cv.2 ⟨rfl,by constructor <;> omega⟩),(Cv.2 ⟨rfl,by constructor <;> omega⟩),(Cv.2 ⟨rfl,by constructor <;> omega⟩),trivial⟩ rfl (by decide) fun k5 cs5 R5=>?_)
 have G5:Grow ρ 53 (.slice (some ⟨k5,0,none⟩) 3 3) ([1,0,2]:List Int) [(k5,Res.obj (.cells cs5.toArray 53 (0,0)))]:=Bs R5 rfl (by decide)
 refine Ca G5 fun ρ6 l6 r6=>?_
 replace G4:=Grow.mono l6 G4
 have r7:Val ρ6 (.agg #[(.string ((ByteArray.mk #[119,97,116,101,114]))),(.slice (some ⟨k5,0,none⟩) 3 3),(.bool (false))]) (⟨(ByteArray.mk #[119,97,116,101,114]),([1,0,2]:List Int),false⟩:FTest):=FTest.shut (x:=(⟨(ByteArray.mk #[119,97,116,101,114]),([1,0,2]:List Int),false⟩:FTest)) (show ((ByteArray.mk #[119,97,116,101,114])).size < 2 ^ 60 from Nat.le_of_ble_eq_true rfl) r6
 refine Aa rfl (Dm (ns:=[1,1,1]) (vs:=[(0,(.string ((ByteArray.mk #[119,97,116,101,114])))),(1,(.slice (some ⟨k5,0,none⟩) 3 3))]) (zc:=Aaf) (cs:=[(.string ((ByteArray.mk #[119,97,116,101,114]))),(.slice (some ⟨k5,0,none⟩) 3 3),(.bool (false))]) Tryd.underlying108 Vm rfl ⟨⟨_,Ab Tryd.typeInfo9,rfl⟩,⟨_,Ab Tryd.typeInfo46,rfl⟩,⟨_,Ab Tryd.typeInfo4,rfl⟩,trivial⟩ (EvB.map ⟨⟨rfl,rfl⟩,⟨rfl,rfl⟩,trivial⟩) ((Bd (cs:=[(.string ((ByteArray.mk #[119,97,116,101,114])))]) rfl rfl (Nat.le_of_ble_eq_true rfl)).trans ((Bd (cs:=[(.slice (some ⟨k5,0,none⟩) 3 3)]) (Val.cells_l r6) rfl (Nat.le_of_ble_eq_true rfl)).trans rfl))) ?_
 refine Ae rfl (Bi (α:=Int) (xs:=[2,2,1]) (vs:=[(iV (2)),(iV (2)),(iV (1))]) Tryd.underlying46 Ov Abg rfl (by decide) (Dl (os:=[.const (.int .i64 2),.const (.int .i64 2),.const (.int .i64 1)]) ⟨rfl,rfl,rfl,trivial⟩) ⟨(Cv.2 ⟨rfl,by constructor <;> omega⟩),(Cv.2 ⟨rfl,by constructor <;> omega⟩),(Cv.2 ⟨rfl,by constructor <;> omega⟩),trivial⟩ rfl (by decide) fun k8 cs8 R8=>?_)
 have G8:Grow ρ6 53 (.slice (some ⟨k8,0,none⟩) 3 3) ([2,2,1]:List Int) [(k8,Res.obj (.cells cs8.toArray 53 (0,0)))]:=Bs R8 rfl (by decide)
 refine Ca G8 fun ρ9 l9 r9=>?_
 replace G4:=Grow.mono l9 G4
 replace r6:=Asa l9 r6
 replace r7:=Asa l9 r7
 have r10:Val ρ9 (.agg #[(.string ((ByteArray.mk #[115,109,101,108,108]))),(.slice (some ⟨k8,0,none⟩) 3 3),(.bool (false))]) (⟨(ByteArray.mk #[115,109,101,108,108]),([2,2,1]:List Int),false⟩:FTest):=FTest.shut (x:=(⟨(ByteArray.mk #[115,109,101,108,108]),([2,2,1]:List Int),false⟩:FTest)) (show ((ByteArray.mk #[115,109,101,108,108])).size < 2 ^ 60 from Nat.le_of_ble_eq_true rfl) r9
 refine Aa rfl (Dm (ns:=[1,1,1]) (vs:=[(0,(.string ((ByteArray.mk #[115,109,101,108,108])))),(1,(.slice (some ⟨k8,0,none⟩) 3 3))]) (zc:=Aaf) (cs:=[(.string ((ByteArray.mk #[115,109,101,108,108]))),(.slice (some ⟨k8,0,none⟩) 3 3),(.bool (false))]) Tryd.underlying108 Vm rfl ⟨⟨_,Ab Tryd.typeInfo9,rfl⟩,⟨_,Ab Tryd.typeInfo46,rfl⟩,⟨_,Ab Tryd.typeInfo4,rfl⟩,trivial⟩ (EvB.map ⟨⟨rfl,rfl⟩,⟨rfl,rfl⟩,trivial⟩) ((Bd (cs:=[(.string ((ByteArray.mk #[115,109,101,108,108])))]) rfl rfl (Nat.le_of_ble_eq_true rfl)).trans ((Bd (cs:=[(.slice (some ⟨k8,0,none⟩) 3 3)]) (Val.cells_l r9) rfl (Nat.le_of_ble_eq_true rfl)).trans rfl))) ?_
 refine Ae rfl (Bi (α:=Int) (xs:=[2,1,2]) (vs:=[(iV (2)),(iV (1)),(iV (2))]) Tryd.underlying46 Ov Abg rfl (by decide) (Dl (os:=[.const (.int .i64 2),.const (.int .i64 1),.const (.int .i64 2)]) ⟨rfl,rfl,rfl,trivial⟩) ⟨(Cv.2 ⟨rfl,by constructor <;> omega⟩),(Cv.2 ⟨rfl,by constructor <;> omega⟩),(Cv.2 ⟨rfl,by constructor <;> omega⟩),trivial⟩ rfl (by decide) fun k11 cs11 R11=>?_)
 have G11:Grow ρ9 53 (.slice (some ⟨k11,0,none⟩) 3 3) ([2,1,2]:List Int) [(k11,Res.obj (.cells cs11.toArray 53 (0,0)))]:=Bs R11 rfl (by decide)
 refine Ca G11 fun ρ12 l12 r12=>?_
 replace G4:=Grow.mono l12 G4
 replace r6:=Asa l12 r6
 replace r7:=Asa l12 r7
 replace r9:=Asa l12 r9
 replace r10:=Asa l12 r10
 have r13:Val ρ12 (.agg #[(.string ((ByteArray.mk #[119,101,105,103,104,116]))),(.slice (some ⟨k11,0,none⟩) 3 3),(.bool (false))]) (⟨(ByteArray.mk #[119,101,105,103,104,116]),([2,1,2]:List Int),false⟩:FTest):=FTest.shut (x:=(⟨(ByteArray.mk #[119,101,105,103,104,116]),([2,1,2]:List Int),false⟩:FTest)) (show ((ByteArray.mk #[119,101,105,103,104,116])).size < 2 ^ 60 from Nat.le_of_ble_eq_true rfl) r12
 refine Aa rfl (Dm (ns:=[1,1,1]) (vs:=[(0,(.string ((ByteArray.mk #[119,101,105,103,104,116])))),(1,(.slice (some ⟨k11,0,none⟩) 3 3))]) (zc:=Aaf) (cs:=[(.string ((ByteArray.mk #[119,101,105,103,104,116]))),(.slice (some ⟨k11,0,none⟩) 3 3),(.bool (false))]) Tryd.underlying108 Vm rfl ⟨⟨_,Ab Tryd.typeInfo9,rfl⟩,⟨_,Ab Tryd.typeInfo46,rfl⟩,⟨_,Ab Tryd.typeInfo4,rfl⟩,trivial⟩ (EvB.map ⟨⟨rfl,rfl⟩,⟨rfl,rfl⟩,trivial⟩) ((Bd (cs:=[(.string ((ByteArray.mk #[119,101,105,103,104,116])))]) rfl rfl (Nat.le_of_ble_eq_true rfl)).trans ((Bd (cs:=[(.slice (some ⟨k11,0,none⟩) 3 3)]) (Val.cells_l r12) rfl (Nat.le_of_ble_eq_true rfl)).trans rfl))) ?_
 refine Ae rfl (Bi (α:=FTest) (xs:=[(⟨(ByteArray.mk #[119,97,116,101,114]),([1,0,2]:List Int),false⟩:FTest),(⟨(ByteArray.mk #[115,109,101,108,108]),([2,2,1]:List Int),false⟩:FTest),(⟨(ByteArray.mk #[119,101,105,103,104,116]),([2,1,2]:List Int),false⟩:FTest)]) (vs:=[(.agg #[(.string ((ByteArray.mk #[119,97,116,101,114]))),(.slice (some ⟨k5,0,none⟩) 3 3),(.bool (false))]),(.agg #[(.string ((ByteArray.mk #[115,109,101,108,108]))),(.slice (some ⟨k8,0,none⟩) 3 3),(.bool (false))]),(.agg #[(.string ((ByteArray.mk #[119,101,105,103,104,116]))),(.slice (some ⟨k11,0,none⟩) 3 3),(.bool (false))])]) Tryd.underlying38 Td Vm rfl (by decide) (Dl (os:=[.tmp 3,.tmp 5,.tmp 7]) ⟨rfl,rfl,rfl,trivial⟩) ⟨r7,r10,r13,trivial⟩ rfl (by decide) fun k14 cs14 R14=>?_)
 have G14:Grow ρ12 108 (.slice (some ⟨k14,0,none⟩) 3 3) ([(⟨(ByteArray.mk #[119,97,116,101,114]),([1,0,2]:List Int),false⟩:FTest),(⟨(ByteArray.mk #[115,109,101,108,108]),([2,2,1]:List Int),false⟩:FTest),(⟨(ByteArray.mk #[119,101,105,103,104,116]),([2,1,2]:List Int),false⟩:FTest)]:List FTest) [(k14,Res.obj (.cells cs14.toArray 108 (0,0)))]:=Bs R14 rfl (by decide)
 refine Bj (σ':=([(k4,Res.obj (.cells cs4.toArray 9 (0,0)))] ++ ([(k14,Res.obj (.cells cs14.toArray 108 (0,0)))] ++ ((k2,Res.obj (Obj.cells #[(.slice none 0 0),(iV (0)),(.slice none 0 0)] 40 (0,0))) :: σ)))) (Arx (List.perm_append_comm_assoc ([(k14,Res.obj (.cells cs14.toArray 108 (0,0)))]) ([(k4,Res.obj (.cells cs4.toArray 9 (0,0)))]) _)) ?_
 refine Ca G4 fun ρ15 l15 r15=>?_
 replace r6:=Asa l15 r6
 replace r7:=Asa l15 r7
 replace r9:=Asa l15 r9
 replace r10:=Asa l15 r10
 replace r12:=Asa l15 r12
 replace r13:=Asa l15 r13
 replace G14:=Grow.mono l15 G14
 refine Ca G14 fun ρ16 l16 r16=>?_
 replace r6:=Asa l16 r6
 replace r7:=Asa l16 r7
 replace r9:=Asa l16 r9
 replace r10:=Asa l16 r10
 replace r12:=Asa l16 r12
 replace r13:=Asa l16 r13
 replace r15:=Asa l16 r15
 have r17:Val ρ16 (.agg #[(.slice (some ⟨k4,0,none⟩) 3 3),(iV (2)),(.slice (some ⟨k14,0,none⟩) 3 3)]) (⟨([(ByteArray.mk #[100,121,101]),(ByteArray.mk #[104,111,110,101,121]),(ByteArray.mk #[111,108,100])]:List ByteArray),2,([(⟨(ByteArray.mk #[119,97,116,101,114]),([1,0,2]:List Int),false⟩:FTest),(⟨(ByteArray.mk #[115,109,101,108,108]),([2,2,1]:List Int),false⟩:FTest),(⟨(ByteArray.mk #[119,101,105,103,104,116]),([2,1,2]:List Int),false⟩:FTest)]:List FTest)⟩:Lab):=Lab.shut (x:=(⟨([(ByteArray.mk #[100,121,101]),(ByteArray.mk #[104,111,110,101,121]),(ByteArray.mk #[111,108,100])]:List ByteArray),2,([(⟨(ByteArray.mk #[119,97,116,101,114]),([1,0,2]:List Int),false⟩:FTest),(⟨(ByteArray.mk #[115,109,101,108,108]),([2,2,1]:List Int),false⟩:FTest),(⟨(ByteArray.mk #[119,101,105,103,104,116]),([2,1,2]:List Int),false⟩:FTest)]:List FTest)⟩:Lab)) r15 (show I64 (2) from by constructor <;> omega) r16
 refine Aa rfl (Dm (ns:=[1,1,1]) (vs:=[(0,(.slice (some ⟨k4,0,none⟩) 3 3)),(1,(iV (2))),(2,(.slice (some ⟨k14,0,none⟩) 3 3))]) (zc:=Alg) (cs:=[(.slice (some ⟨k4,0,none⟩) 3 3),(iV (2)),(.slice (some ⟨k14,0,none⟩) 3 3)]) Tryd.underlying40 Anm rfl ⟨⟨_,Ab Tryd.typeInfo22,rfl⟩,⟨_,Ab Tryd.typeInfo3,rfl⟩,⟨_,Ab Tryd.typeInfo38,rfl⟩,trivial⟩ (EvB.map ⟨⟨rfl,rfl⟩,⟨rfl,rfl⟩,⟨rfl,rfl⟩,trivial⟩) ((Bd (cs:=[(.slice (some ⟨k4,0,none⟩) 3 3)]) (Val.cells_l r15) rfl (Nat.le_of_ble_eq_true rfl)).trans ((Bd (cs:=[(iV (2))]) rfl rfl (Nat.le_of_ble_eq_true rfl)).trans ((Bd (cs:=[(.slice (some ⟨k14,0,none⟩) 3 3)]) (Val.cells_l r16) rfl (Nat.le_of_ble_eq_true rfl)).trans rfl)))) ?_
 refine Cx rfl (Ld (i:=0) (vs:=[(.slice (some ⟨k4,0,none⟩) 3 3),(iV (2)),(.slice (some ⟨k14,0,none⟩) 3 3)]) (c':=[(.slice (some ⟨k4,0,none⟩) 3 3),(iV (2)),(.slice (some ⟨k14,0,none⟩) 3 3)]) ⟨_,Ab Tryd.typeInfo40,rfl⟩ rfl rfl rfl rfl (Xv ⟨(Val.single_l r15),rfl,(Val.single_l r16),trivial⟩) rfl (Nat.le_of_ble_eq_true rfl) rfl ?_)
 apply Ac
 apply k3
 refine Aq ?_
 have r18:Val ρ16 (.agg #[(.slice (some ⟨k4,0,none⟩) 3 3),(iV (2)),(.slice (some ⟨k14,0,none⟩) 3 3)]) (⟨([(ByteArray.mk #[100,121,101]),(ByteArray.mk #[104,111,110,101,121]),(ByteArray.mk #[111,108,100])]:List ByteArray),2,([(⟨(ByteArray.mk #[119,97,116,101,114]),([1,0,2]:List Int),false⟩:FTest),(⟨(ByteArray.mk #[115,109,101,108,108]),([2,2,1]:List Int),false⟩:FTest),(⟨(ByteArray.mk #[119,101,105,103,104,116]),([2,1,2]:List Int),false⟩:FTest)]:List FTest)⟩:Lab):=Lab.shut (x:=(⟨([(ByteArray.mk #[100,121,101]),(ByteArray.mk #[104,111,110,101,121]),(ByteArray.mk #[111,108,100])]:List ByteArray),2,([(⟨(ByteArray.mk #[119,97,116,101,114]),([1,0,2]:List Int),false⟩:FTest),(⟨(ByteArray.mk #[115,109,101,108,108]),([2,2,1]:List Int),false⟩:FTest),(⟨(ByteArray.mk #[119,101,105,103,104,116]),([2,1,2]:List Int),false⟩:FTest)]:List FTest)⟩:Lab)) r15 (show I64 (2) from by constructor <;> omega) r16
 refine hret _ _ _ _ _ [(.agg #[(.slice (some ⟨k4,0,none⟩) 3 3),(iV (2)),(.slice (some ⟨k14,0,none⟩) 3 3)])] ⟨(Qm ⟨_,Tryd.underlying40,rfl⟩ ⟨_,Ab Tryd.typeInfo40,rfl⟩ rfl (i:=0) rfl rfl),trivial⟩ Ghost.drop ?_
 refine ⟨(Arz (Arz (Arz (Arz l6 l9) l12) l15) l16),rfl,Aci (v:=(.agg #[(.slice (some ⟨k4,0,none⟩) 3 3),(iV (2)),(.slice (some ⟨k14,0,none⟩) 3 3)])) rfl (Val.cast ?_ r18)⟩
 ·rfl
set_option maxHeartbeats 1000000 in
set_option maxRecDepth 100000 in
theorem Aea {mn:Bool} {X:Frame→List Frame→Ro→Own→Cy→Prop} {ρ:Ro} {σ:Own}  :CallsH (CX mn X) 60 #[] ρ σ (fun w ρ' σ'=>Ro.le ρ ρ'∧σ' = σ∧Val ρ' w (Ff:Market)):=by
 refine Mc (n:=27) (args:=[]) [.cell 0 26] Tryd.func60 rfl rfl rfl rfl fun Q hret hnor=>?_
 refine w_q rfl rfl fun K1 k1=>?_
 refine Ae rfl (Ct Aoj fun k2=>?_)
 apply Ac
 apply k1
 refine w_q rfl rfl fun K3 k3=>?_
 refine Ae rfl (Bi (α:=ByteArray) (xs:=[(ByteArray.mk #[97,110,97]),(ByteArray.mk #[114,117,105]),(ByteArray.mk #[115,111,108])]) (vs:=[(.string ((ByteArray.mk #[97,110,97]))),(.string ((ByteArray.mk #[114,117,105]))),(.string ((ByteArray.mk #[115,111,108])))]) Tryd.underlying22 ty9 zr9 rfl (by decide) (Dl (os:=[.const (.string (ByteArray.mk #[97,110,97])),.const (.string (ByteArray.mk #[114,117,105])),.const (.string (ByteArray.mk #[115,111,108]))]) ⟨rfl,rfl,rfl,trivial⟩) ⟨(Jk.2 ⟨rfl,Nat.le_of_ble_eq_true rfl⟩),(Jk.2 ⟨rfl,Nat.le_of_ble_eq_true rfl⟩),(Jk.2 ⟨rfl,Nat.le_of_ble_eq_true rfl⟩),trivial⟩ rfl (by decide) fun k4 cs4 R4=>?_)
 have G4:Grow ρ 9 (.slice (some ⟨k4,0,none⟩) 3 3) ([(ByteArray.mk #[97,110,97]),(ByteArray.mk #[114,117,105]),(ByteArray.mk #[115,111,108])]:List ByteArray) [(k4,Res.obj (.cells cs4.toArray 9 (0,0)))]:=Bs R4 rfl (by decide)
 refine Ae rfl (Bi (α:=ByteArray) (xs:=[(ByteArray.mk #[105,114,111,110]),(ByteArray.mk #[115,97,108,116])]) (vs:=[(.string ((ByteArray.mk #[105,114,111,110]))),(.string ((ByteArray.mk #[115,97,108,116])))]) Tryd.underlying22 ty9 zr9 rfl (by decide) (Dl (os:=[.const (.string (ByteArray.mk #[105,114,111,110])),.const (.string (ByteArray.mk #[115,97,108,116]))]) ⟨rfl,rfl,trivial⟩) ⟨(Jk.2 ⟨rfl,Nat.le_of_ble_eq_true rfl⟩),(Jk.2 ⟨rfl,Nat.le_of_ble_eq_true rfl⟩),trivial⟩ rfl (by decide) fun k5 cs5 R5=>?_)
 have G5:Grow ρ 9 (.slice (some ⟨k5,0,none⟩) 2 2) ([(ByteArray.mk #[105,114,111,110]),(ByteArray.mk #[115,97,108,116])]:List ByteArray) [(k5,Res.obj (.cells cs5.toArray 9 (0,0)))]:=Bs R5 rfl (by decide)
 refine Ae rfl (Cm (vs:=[(iV (90)),(iV (100))]) (Hy (a:=90) (b:=100) (by constructor <;> omega) (by constructor <;> omega)) Tryd.func34 rfl rfl ⟨rfl,rfl,trivial⟩ fun v6 ρ6 σ6 hc6=>?_)
 obtain ⟨l6,s6,r6⟩:=hc6
 replace s6:=s6.symm; subst s6
 replace G4:=Grow.mono l6 G4
 replace G5:=Grow.mono l6 G5
 refine Ae rfl (Cm (vs:=[(iV (10)),(iV (20))]) (Hy (a:=10) (b:=20) (by constructor <;> omega) (by constructor <;> omega)) Tryd.func34 rfl rfl ⟨rfl,rfl,trivial⟩ fun v7 ρ7 σ7 hc7=>?_)
 obtain ⟨l7,s7,r7⟩:=hc7
 replace s7:=s7.symm; subst s7
 replace G4:=Grow.mono l7 G4
 replace G5:=Grow.mono l7 G5
 replace r6:=Asa l7 r6
 refine Ae rfl (Cm (vs:=[(iV (5)),(iV (9))]) (Hy (a:=5) (b:=9) (by constructor <;> omega) (by constructor <;> omega)) Tryd.func34 rfl rfl ⟨rfl,rfl,trivial⟩ fun v8 ρ8 σ8 hc8=>?_)
 obtain ⟨l8,s8,r8⟩:=hc8
 replace s8:=s8.symm; subst s8
 replace G4:=Grow.mono l8 G4
 replace G5:=Grow.mono l8 G5
 replace r6:=Asa l8 r6
 replace r7:=Asa l8 r7
 refine Ae rfl (Bi (α:=Span) (xs:=[(⟨10,20⟩:Span),(⟨5,9⟩:Span)]) (vs:=[v7,v8]) Tryd.underlying27 Mx Yn rfl (by decide) (Dl (os:=[.tmp 4,.tmp 5]) ⟨rfl,rfl,trivial⟩) ⟨r7,r8,trivial⟩ rfl (by decide) fun k9 cs9 R9=>?_)
 have G9:Grow ρ8 65 (.slice (some ⟨k9,0,none⟩) 2 2) ([(⟨10,20⟩:Span),(⟨5,9⟩:Span)]:List Span) [(k9,Res.obj (.cells cs9.toArray 65 (0,0)))]:=Bs R9 rfl (by decide)
 refine Ca G9 fun ρ10 l10 r10=>?_
 replace G4:=Grow.mono l10 G4
 replace G5:=Grow.mono l10 G5
 replace r6:=Asa l10 r6
 replace r7:=Asa l10 r7
 replace r8:=Asa l10 r8
 obtain ⟨e11_,⟨i11_1a,i11_1b⟩,⟨i11_2a,i11_2b⟩⟩:=Span.open_ r6
 have e11_c:v6.cells = [(iV (90)),(iV (100))].toArray:=by rw [e11_]; rfl
 have r12:Val ρ10 (.agg #[(.string ((ByteArray.mk #[104,105,108,108]))),(iV (0)),(iV (90)),(iV (100)),(.slice (some ⟨k9,0,none⟩) 2 2)]) (⟨(ByteArray.mk #[104,105,108,108]),0,⟨90,100⟩,([(⟨10,20⟩:Span),(⟨5,9⟩:Span)]:List Span)⟩:FField):=FField.shut (x:=(⟨(ByteArray.mk #[104,105,108,108]),0,⟨90,100⟩,([(⟨10,20⟩:Span),(⟨5,9⟩:Span)]:List Span)⟩:FField)) (show ((ByteArray.mk #[104,105,108,108])).size < 2 ^ 60 from Nat.le_of_ble_eq_true rfl) (show I64 (0) from by constructor <;> omega) (show I64 (90) from by constructor <;> omega) (show I64 (100) from by constructor <;> omega) r10
 refine Aa rfl (Dm (ns:=[1,1,2,1]) (vs:=[(0,(.string ((ByteArray.mk #[104,105,108,108])))),(2,v6),(3,(.slice (some ⟨k9,0,none⟩) 2 2))]) (zc:=Zu) (cs:=[(.string ((ByteArray.mk #[104,105,108,108]))),(iV (0)),(iV (90)),(iV (100)),(.slice (some ⟨k9,0,none⟩) 2 2)]) Tryd.underlying67 Xg rfl ⟨⟨_,Ab Tryd.typeInfo9,rfl⟩,⟨_,Ab Tryd.typeInfo3,rfl⟩,⟨_,Ab Tryd.typeInfo65,rfl⟩,⟨_,Ab Tryd.typeInfo27,rfl⟩,trivial⟩ (EvB.map ⟨⟨rfl,rfl⟩,⟨rfl,rfl⟩,⟨rfl,rfl⟩,trivial⟩) ((Bd (cs:=[(.string ((ByteArray.mk #[104,105,108,108])))]) rfl rfl (Nat.le_of_ble_eq_true rfl)).trans ((Bd (cs:=[(iV (90)),(iV (100))]) e11_c rfl (Nat.le_of_ble_eq_true rfl)).trans ((Bd (cs:=[(.slice (some ⟨k9,0,none⟩) 2 2)]) (Val.cells_l r10) rfl (Nat.le_of_ble_eq_true rfl)).trans rfl)))) ?_
 refine Ae rfl (Cm (vs:=[(iV (40)),(iV (50))]) (Hy (a:=40) (b:=50) (by constructor <;> omega) (by constructor <;> omega)) Tryd.func34 rfl rfl ⟨rfl,rfl,trivial⟩ fun v13 ρ13 σ13 hc13=>?_)
 obtain ⟨l13,s13,r13⟩:=hc13
 replace s13:=s13.symm; subst s13
 replace G4:=Grow.mono l13 G4
 replace G5:=Grow.mono l13 G5
 replace r6:=Asa l13 r6
 replace r7:=Asa l13 r7
 replace r8:=Asa l13 r8
 replace r10:=Asa l13 r10
 replace r12:=Asa l13 r12
 refine Ae rfl (Cm (vs:=[(iV (30)),(iV (40))]) (Hy (a:=30) (b:=40) (by constructor <;> omega) (by constructor <;> omega)) Tryd.func34 rfl rfl ⟨rfl,rfl,trivial⟩ fun v14 ρ14 σ14 hc14=>?_)
 obtain ⟨l14,s14,r14⟩:=hc14
 replace s14:=s14.symm; subst s14
 replace G4:=Grow.mono l14 G4
 replace G5:=Grow.mono l14 G5
 replace r6:=Asa l14 r6
 replace r7:=Asa l14 r7
 replace r8:=Asa l14 r8
 replace r10:=Asa l14 r10
 replace r12:=Asa l14 r12
 replace r13:=Asa l14 r13
 refine Ae rfl (Cm (vs:=[(iV (5)),(iV (6))]) (Hy (a:=5) (b:=6) (by constructor <;> omega) (by constructor <;> omega)) Tryd.func34 rfl rfl ⟨rfl,rfl,trivial⟩ fun v15 ρ15 σ15 hc15=>?_)
 obtain ⟨l15,s15,r15⟩:=hc15
 replace s15:=s15.symm; subst s15
 replace G4:=Grow.mono l15 G4
 replace G5:=Grow.mono l15 G5
 replace r6:=Asa l15 r6
 replace r7:=Asa l15 r7
 replace r8:=Asa l15 r8
 replace r10:=Asa l15 r10
 replace r12:=Asa l15 r12
 replace r13:=Asa l15 r13
 replace r14:=Asa l15 r14
 refine Ae rfl (Bi (α:=Span) (xs:=[(⟨30,40⟩:Span),(⟨5,6⟩:Span)]) (vs:=[v14,v15]) Tryd.underlying27 Mx Yn rfl (by decide) (Dl (os:=[.tmp 9,.tmp 10]) ⟨rfl,rfl,trivial⟩) ⟨r14,r15,trivial⟩ rfl (by decide) fun k16 cs16 R16=>?_)
 have G16:Grow ρ15 65 (.slice (some ⟨k16,0,none⟩) 2 2) ([(⟨30,40⟩:Span),(⟨5,6⟩:Span)]:List Span) [(k16,Res.obj (.cells cs16.toArray 65 (0,0)))]:=Bs R16 rfl (by decide)
 refine Ca G16 fun ρ17 l17 r17=>?_
 replace G4:=Grow.mono l17 G4
 replace G5:=Grow.mono l17 G5
 replace r6:=Asa l17 r6
 replace r7:=Asa l17 r7
 replace r8:=Asa l17 r8
 replace r10:=Asa l17 r10
 replace r12:=Asa l17 r12
 replace r13:=Asa l17 r13
 replace r14:=Asa l17 r14
 replace r15:=Asa l17 r15
 obtain ⟨e18_,⟨i18_1a,i18_1b⟩,⟨i18_2a,i18_2b⟩⟩:=Span.open_ r13
 have e18_c:v13.cells = [(iV (40)),(iV (50))].toArray:=by rw [e18_]; rfl
 have r19:Val ρ17 (.agg #[(.string ((ByteArray.mk #[108,111,119]))),(iV (1)),(iV (40)),(iV (50)),(.slice (some ⟨k16,0,none⟩) 2 2)]) (⟨(ByteArray.mk #[108,111,119]),1,⟨40,50⟩,([(⟨30,40⟩:Span),(⟨5,6⟩:Span)]:List Span)⟩:FField):=FField.shut (x:=(⟨(ByteArray.mk #[108,111,119]),1,⟨40,50⟩,([(⟨30,40⟩:Span),(⟨5,6⟩:Span)]:List Span)⟩:FField)) (show ((ByteArray.mk #[108,111,119])).size < 2 ^ 60 from Nat.le_of_ble_eq_true rfl) (show I64 (1) from by constructor <;> omega) (show I64 (40) from by constructor <;> omega) (show I64 (50) from by constructor <;> omega) r17
 refine Aa rfl (Dm (ns:=[1,1,2,1]) (vs:=[(0,(.string ((ByteArray.mk #[108,111,119])))),(1,(iV (1))),(2,v13),(3,(.slice (some ⟨k16,0,none⟩) 2 2))]) (zc:=Zu) (cs:=[(.string ((ByteArray.mk #[108,111,119]))),(iV (1)),(iV (40)),(iV (50)),(.slice (some ⟨k16,0,none⟩) 2 2)]) Tryd.underlying67 Xg rfl ⟨⟨_,Ab Tryd.typeInfo9,rfl⟩,⟨_,Ab Tryd.typeInfo3,rfl⟩,⟨_,Ab Tryd.typeInfo65,rfl⟩,⟨_,Ab Tryd.typeInfo27,rfl⟩,trivial⟩ (EvB.map ⟨⟨rfl,rfl⟩,⟨rfl,rfl⟩,⟨rfl,rfl⟩,⟨rfl,rfl⟩,trivial⟩) ((Bd (cs:=[(.string ((ByteArray.mk #[108,111,119])))]) rfl rfl (Nat.le_of_ble_eq_true rfl)).trans ((Bd (cs:=[(iV (1))]) rfl rfl (Nat.le_of_ble_eq_true rfl)).trans ((Bd (cs:=[(iV (40)),(iV (50))]) e18_c rfl (Nat.le_of_ble_eq_true rfl)).trans ((Bd (cs:=[(.slice (some ⟨k16,0,none⟩) 2 2)]) (Val.cells_l r17) rfl (Nat.le_of_ble_eq_true rfl)).trans rfl))))) ?_
 refine Ae rfl (Cm (vs:=[(iV (60)),(iV (70))]) (Hy (a:=60) (b:=70) (by constructor <;> omega) (by constructor <;> omega)) Tryd.func34 rfl rfl ⟨rfl,rfl,trivial⟩ fun v20 ρ20 σ20 hc20=>?_)
 obtain ⟨l20,s20,r20⟩:=hc20
 replace s20:=s20.symm; subst s20
 replace G4:=Grow.mono l20 G4
 replace G5:=Grow.mono l20 G5
 replace r6:=Asa l20 r6
 replace r7:=Asa l20 r7
 replace r8:=Asa l20 r8
 replace r10:=Asa l20 r10
 replace r12:=Asa l20 r12
 replace r13:=Asa l20 r13
 replace r14:=Asa l20 r14
 replace r15:=Asa l20 r15
 replace r17:=Asa l20 r17
 replace r19:=Asa l20 r19
 refine Ae rfl (Cm (vs:=[(iV (10)),(iV (15))]) (Hy (a:=10) (b:=15) (by constructor <;> omega) (by constructor <;> omega)) Tryd.func34 rfl rfl ⟨rfl,rfl,trivial⟩ fun v21 ρ21 σ21 hc21=>?_)
 obtain ⟨l21,s21,r21⟩:=hc21
 replace s21:=s21.symm; subst s21
 replace G4:=Grow.mono l21 G4
 replace G5:=Grow.mono l21 G5
 replace r6:=Asa l21 r6
 replace r7:=Asa l21 r7
 replace r8:=Asa l21 r8
 replace r10:=Asa l21 r10
 replace r12:=Asa l21 r12
 replace r13:=Asa l21 r13
 replace r14:=Asa l21 r14
 replace r15:=Asa l21 r15
 replace r17:=Asa l21 r17
 replace r19:=Asa l21 r19
 replace r20:=Asa l21 r20
 refine Ae rfl (Cm (vs:=[(iV (20)),(iV (30))]) (Hy (a:=20) (b:=30) (by constructor <;> omega) (by constructor <;> omega)) Tryd.func34 rfl rfl ⟨rfl,rfl,trivial⟩ fun v22 ρ22 σ22 hc22=>?_)
 obtain ⟨l22,s22,r22⟩:=hc22
 replace s22:=s22.symm; subst s22
 replace G4:=Grow.mono l22 G4
 replace G5:=Grow.mono l22 G5
 replace r6:=Asa l22 r6
 replace r7:=Asa l22 r7
 replace r8:=Asa l22 r8
 replace r10:=Asa l22 r10
 replace r12:=Asa l22 r12
 replace r13:=Asa l22 r13
 replace r14:=Asa l22 r14
 replace r15:=Asa l22 r15
 replace r17:=Asa l22 r17
 replace r19:=Asa l22 r19
 replace r20:=Asa l22 r20
 replace r21:=Asa l22 r21
 refine Ae rfl (Bi (α:=Span) (xs:=[(⟨10,15⟩:Span),(⟨20,30⟩:Span)]) (vs:=[v21,v22]) Tryd.underlying27 Mx Yn rfl (by decide) (Dl (os:=[.tmp 14,.tmp 15]) ⟨rfl,rfl,trivial⟩) ⟨r21,r22,trivial⟩ rfl (by decide) fun k23 cs23 R23=>?_)
 have G23:Grow ρ22 65 (.slice (some ⟨k23,0,none⟩) 2 2) ([(⟨10,15⟩:Span),(⟨20,30⟩:Span)]:List Span) [(k23,Res.obj (.cells cs23.toArray 65 (0,0)))]:=Bs R23 rfl (by decide)
 refine Ca G23 fun ρ24 l24 r24=>?_
 replace G4:=Grow.mono l24 G4
 replace G5:=Grow.mono l24 G5
 replace r6:=Asa l24 r6
 replace r7:=Asa l24 r7
 replace r8:=Asa l24 r8
 replace r10:=Asa l24 r10
 replace r12:=Asa l24 r12
 replace r13:=Asa l24 r13
 replace r14:=Asa l24 r14
 replace r15:=Asa l24 r15
 replace r17:=Asa l24 r17
 replace r19:=Asa l24 r19
 replace r20:=Asa l24 r20
 replace r21:=Asa l24 r21
 replace r22:=Asa l24 r22
 obtain ⟨e25_,⟨i25_1a,i25_1b⟩,⟨i25_2a,i25_2b⟩⟩:=Span.open_ r20
 have e25_c:v20.cells = [(iV (60)),(iV (70))].toArray:=by rw [e25_]; rfl
 have r26:Val ρ24 (.agg #[(.string ((ByteArray.mk #[101,97,115,116]))),(iV (2)),(iV (60)),(iV (70)),(.slice (some ⟨k23,0,none⟩) 2 2)]) (⟨(ByteArray.mk #[101,97,115,116]),2,⟨60,70⟩,([(⟨10,15⟩:Span),(⟨20,30⟩:Span)]:List Span)⟩:FField):=FField.shut (x:=(⟨(ByteArray.mk #[101,97,115,116]),2,⟨60,70⟩,([(⟨10,15⟩:Span),(⟨20,30⟩:Span)]:List Span)⟩:FField)) (show ((ByteArray.mk #[101,97,115,116])).size < 2 ^ 60 from Nat.le_of_ble_eq_true rfl) (show I64 (2) from by constructor <;> omega) (show I64 (60) from by constructor <;> omega) (show I64 (70) from by constructor <;> omega) r24
 refine Aa rfl (Dm (ns:=[1,1,2,1]) (vs:=[(0,(.string ((ByteArray.mk #[101,97,115,116])))),(1,(iV (2))),(2,v20),(3,(.slice (some ⟨k23,0,none⟩) 2 2))]) (zc:=Zu) (cs:=[(.string ((ByteArray.mk #[101,97,115,116]))),(iV (2)),(iV (60)),(iV (70)),(.slice (some ⟨k23,0,none⟩) 2 2)]) Tryd.underlying67 Xg rfl ⟨⟨_,Ab Tryd.typeInfo9,rfl⟩,⟨_,Ab Tryd.typeInfo3,rfl⟩,⟨_,Ab Tryd.typeInfo65,rfl⟩,⟨_,Ab Tryd.typeInfo27,rfl⟩,trivial⟩ (EvB.map ⟨⟨rfl,rfl⟩,⟨rfl,rfl⟩,⟨rfl,rfl⟩,⟨rfl,rfl⟩,trivial⟩) ((Bd (cs:=[(.string ((ByteArray.mk #[101,97,115,116])))]) rfl rfl (Nat.le_of_ble_eq_true rfl)).trans ((Bd (cs:=[(iV (2))]) rfl rfl (Nat.le_of_ble_eq_true rfl)).trans ((Bd (cs:=[(iV (60)),(iV (70))]) e25_c rfl (Nat.le_of_ble_eq_true rfl)).trans ((Bd (cs:=[(.slice (some ⟨k23,0,none⟩) 2 2)]) (Val.cells_l r24) rfl (Nat.le_of_ble_eq_true rfl)).trans rfl))))) ?_
 refine Ae rfl (Bi (α:=FField) (xs:=[(⟨(ByteArray.mk #[104,105,108,108]),0,⟨90,100⟩,([(⟨10,20⟩:Span),(⟨5,9⟩:Span)]:List Span)⟩:FField),(⟨(ByteArray.mk #[108,111,119]),1,⟨40,50⟩,([(⟨30,40⟩:Span),(⟨5,6⟩:Span)]:List Span)⟩:FField),(⟨(ByteArray.mk #[101,97,115,116]),2,⟨60,70⟩,([(⟨10,15⟩:Span),(⟨20,30⟩:Span)]:List Span)⟩:FField)]) (vs:=[(.agg #[(.string ((ByteArray.mk #[104,105,108,108]))),(iV (0)),(iV (90)),(iV (100)),(.slice (some ⟨k9,0,none⟩) 2 2)]),(.agg #[(.string ((ByteArray.mk #[108,111,119]))),(iV (1)),(iV (40)),(iV (50)),(.slice (some ⟨k16,0,none⟩) 2 2)]),(.agg #[(.string ((ByteArray.mk #[101,97,115,116]))),(iV (2)),(iV (60)),(iV (70)),(.slice (some ⟨k23,0,none⟩) 2 2)])]) Tryd.underlying23 Ln Xg rfl (by decide) (Dl (os:=[.tmp 7,.tmp 12,.tmp 17]) ⟨rfl,rfl,rfl,trivial⟩) ⟨r12,r19,r26,trivial⟩ rfl (by decide) fun k27 cs27 R27=>?_)
 have G27:Grow ρ24 67 (.slice (some ⟨k27,0,none⟩) 3 3) ([(⟨(ByteArray.mk #[104,105,108,108]),0,⟨90,100⟩,([(⟨10,20⟩:Span),(⟨5,9⟩:Span)]:List Span)⟩:FField),(⟨(ByteArray.mk #[108,111,119]),1,⟨40,50⟩,([(⟨30,40⟩:Span),(⟨5,6⟩:Span)]:List Span)⟩:FField),(⟨(ByteArray.mk #[101,97,115,116]),2,⟨60,70⟩,([(⟨10,15⟩:Span),(⟨20,30⟩:Span)]:List Span)⟩:FField)]:List FField) [(k27,Res.obj (.cells cs27.toArray 67 (0,0)))]:=Bs R27 rfl (by decide)
 refine Ae rfl (Bi (α:=Int) (xs:=[0,1]) (vs:=[(iV (0)),(iV (1))]) Tryd.underlying30 ty3 zr3 rfl (by decide) (Dl (os:=[.const (.int .i64 0),.const (.int .i64 1)]) ⟨rfl,rfl,trivial⟩) ⟨(Cv.2 ⟨rfl,by constructor <;> omega⟩),(Cv.2 ⟨rfl,by constructor <;> omega⟩),trivial⟩ rfl (by decide) fun k28 cs28 R28=>?_)
 have G28:Grow ρ24 3 (.slice (some ⟨k28,0,none⟩) 2 2) ([0,1]:List Int) [(k28,Res.obj (.cells cs28.toArray 3 (0,0)))]:=Bs R28 rfl (by decide)
 refine Ca G28 fun ρ29 l29 r29=>?_
 replace G4:=Grow.mono l29 G4
 replace G5:=Grow.mono l29 G5
 replace r6:=Asa l29 r6
 replace r7:=Asa l29 r7
 replace r8:=Asa l29 r8
 replace r10:=Asa l29 r10
 replace r12:=Asa l29 r12
 replace r13:=Asa l29 r13
 replace r14:=Asa l29 r14
 replace r15:=Asa l29 r15
 replace r17:=Asa l29 r17
 replace r19:=Asa l29 r19
 replace r20:=Asa l29 r20
 replace r21:=Asa l29 r21
 replace r22:=Asa l29 r22
 replace r24:=Asa l29 r24
 replace r26:=Asa l29 r26
 replace G27:=Grow.mono l29 G27
 have r30:Val ρ29 (.agg #[(iV (120)),(.slice (some ⟨k28,0,none⟩) 2 2)]) (⟨120,([0,1]:List Int)⟩:Sale):=Sale.shut (x:=(⟨120,([0,1]:List Int)⟩:Sale)) (show I64 (120) from by constructor <;> omega) r29
 refine Aa rfl (Dm (ns:=[1,1]) (vs:=[(0,(iV (120))),(1,(.slice (some ⟨k28,0,none⟩) 2 2))]) (zc:=Ags) (cs:=[(iV (120)),(.slice (some ⟨k28,0,none⟩) 2 2)]) Tryd.underlying59 Aeo rfl ⟨⟨_,Ab Tryd.typeInfo3,rfl⟩,⟨_,Ab Tryd.typeInfo30,rfl⟩,trivial⟩ (EvB.map ⟨⟨rfl,rfl⟩,⟨rfl,rfl⟩,trivial⟩) ((Bd (cs:=[(iV (120))]) rfl rfl (Nat.le_of_ble_eq_true rfl)).trans ((Bd (cs:=[(.slice (some ⟨k28,0,none⟩) 2 2)]) (Val.cells_l r29) rfl (Nat.le_of_ble_eq_true rfl)).trans rfl))) ?_
 refine Ae rfl (Bi (α:=Int) (xs:=[1]) (vs:=[(iV (1))]) Tryd.underlying30 ty3 zr3 rfl (by decide) (Dl (os:=[.const (.int .i64 1)]) ⟨rfl,trivial⟩) ⟨(Cv.2 ⟨rfl,by constructor <;> omega⟩),trivial⟩ rfl (by decide) fun k31 cs31 R31=>?_)
 have G31:Grow ρ29 3 (.slice (some ⟨k31,0,none⟩) 1 1) ([1]:List Int) [(k31,Res.obj (.cells cs31.toArray 3 (0,0)))]:=Bs R31 rfl (by decide)
 refine Ca G31 fun ρ32 l32 r32=>?_
 replace G4:=Grow.mono l32 G4
 replace G5:=Grow.mono l32 G5
 replace r6:=Asa l32 r6
 replace r7:=Asa l32 r7
 replace r8:=Asa l32 r8
 replace r10:=Asa l32 r10
 replace r12:=Asa l32 r12
 replace r13:=Asa l32 r13
 replace r14:=Asa l32 r14
 replace r15:=Asa l32 r15
 replace r17:=Asa l32 r17
 replace r19:=Asa l32 r19
 replace r20:=Asa l32 r20
 replace r21:=Asa l32 r21
 replace r22:=Asa l32 r22
 replace r24:=Asa l32 r24
 replace r26:=Asa l32 r26
 replace G27:=Grow.mono l32 G27
 replace r29:=Asa l32 r29
 replace r30:=Asa l32 r30
 have r33:Val ρ32 (.agg #[(iV (60)),(.slice (some ⟨k31,0,none⟩) 1 1)]) (⟨60,([1]:List Int)⟩:Sale):=Sale.shut (x:=(⟨60,([1]:List Int)⟩:Sale)) (show I64 (60) from by constructor <;> omega) r32
 refine Aa rfl (Dm (ns:=[1,1]) (vs:=[(0,(iV (60))),(1,(.slice (some ⟨k31,0,none⟩) 1 1))]) (zc:=Ags) (cs:=[(iV (60)),(.slice (some ⟨k31,0,none⟩) 1 1)]) Tryd.underlying59 Aeo rfl ⟨⟨_,Ab Tryd.typeInfo3,rfl⟩,⟨_,Ab Tryd.typeInfo30,rfl⟩,trivial⟩ (EvB.map ⟨⟨rfl,rfl⟩,⟨rfl,rfl⟩,trivial⟩) ((Bd (cs:=[(iV (60))]) rfl rfl (Nat.le_of_ble_eq_true rfl)).trans ((Bd (cs:=[(.slice (some ⟨k31,0,none⟩) 1 1)]) (Val.cells_l r32) rfl (Nat.le_of_ble_eq_true rfl)).trans rfl))) ?_
 refine Ae rfl (Bi (α:=Int) (xs:=[2]) (vs:=[(iV (2))]) Tryd.underlying30 ty3 zr3 rfl (by decide) (Dl (os:=[.const (.int .i64 2)]) ⟨rfl,trivial⟩) ⟨(Cv.2 ⟨rfl,by constructor <;> omega⟩),trivial⟩ rfl (by decide) fun k34 cs34 R34=>?_)
 have G34:Grow ρ32 3 (.slice (some ⟨k34,0,none⟩) 1 1) ([2]:List Int) [(k34,Res.obj (.cells cs34.toArray 3 (0,0)))]:=Bs R34 rfl (by decide)
 refine Ca G34 fun ρ35 l35 r35=>?_
 replace G4:=Grow.mono l35 G4
 replace G5:=Grow.mono l35 G5
 replace r6:=Asa l35 r6
 replace r7:=Asa l35 r7
 replace r8:=Asa l35 r8
 replace r10:=Asa l35 r10
 replace r12:=Asa l35 r12
 replace r13:=Asa l35 r13
 replace r14:=Asa l35 r14
 replace r15:=Asa l35 r15
 replace r17:=Asa l35 r17
 replace r19:=Asa l35 r19
 replace r20:=Asa l35 r20
 replace r21:=Asa l35 r21
 replace r22:=Asa l35 r22
 replace r24:=Asa l35 r24
 replace r26:=Asa l35 r26
 replace G27:=Grow.mono l35 G27
 replace r29:=Asa l35 r29
 replace r30:=Asa l35 r30
 replace r32:=Asa l35 r32
 replace r33:=Asa l35 r33
 have r36:Val ρ35 (.agg #[(iV (50)),(.slice (some ⟨k34,0,none⟩) 1 1)]) (⟨50,([2]:List Int)⟩:Sale):=Sale.shut (x:=(⟨50,([2]:List Int)⟩:Sale)) (show I64 (50) from by constructor <;> omega) r35
 refine Aa rfl (Dm (ns:=[1,1]) (vs:=[(0,(iV (50))),(1,(.slice (some ⟨k34,0,none⟩) 1 1))]) (zc:=Ags) (cs:=[(iV (50)),(.slice (some ⟨k34,0,none⟩) 1 1)]) Tryd.underlying59 Aeo rfl ⟨⟨_,Ab Tryd.typeInfo3,rfl⟩,⟨_,Ab Tryd.typeInfo30,rfl⟩,trivial⟩ (EvB.map ⟨⟨rfl,rfl⟩,⟨rfl,rfl⟩,trivial⟩) ((Bd (cs:=[(iV (50))]) rfl rfl (Nat.le_of_ble_eq_true rfl)).trans ((Bd (cs:=[(.slice (some ⟨k34,0,none⟩) 1 1)]) (Val.cells_l r35) rfl (Nat.le_of_ble_eq_true rfl)).trans rfl))) ?_
 refine Ae rfl (Bi (α:=Sale) (xs:=[(⟨120,([0,1]:List Int)⟩:Sale),(⟨60,([1]:List Int)⟩:Sale),(⟨50,([2]:List Int)⟩:Sale)]) (vs:=[(.agg #[(iV (120)),(.slice (some ⟨k28,0,none⟩) 2 2)]),(.agg #[(iV (60)),(.slice (some ⟨k31,0,none⟩) 1 1)]),(.agg #[(iV (50)),(.slice (some ⟨k34,0,none⟩) 1 1)])]) Tryd.underlying24 Su Aeo rfl (by decide) (Dl (os:=[.tmp 20,.tmp 22,.tmp 24]) ⟨rfl,rfl,rfl,trivial⟩) ⟨r30,r33,r36,trivial⟩ rfl (by decide) fun k37 cs37 R37=>?_)
 have G37:Grow ρ35 59 (.slice (some ⟨k37,0,none⟩) 3 3) ([(⟨120,([0,1]:List Int)⟩:Sale),(⟨60,([1]:List Int)⟩:Sale),(⟨50,([2]:List Int)⟩:Sale)]:List Sale) [(k37,Res.obj (.cells cs37.toArray 59 (0,0)))]:=Bs R37 rfl (by decide)
 refine Bj (σ':=([(k4,Res.obj (.cells cs4.toArray 9 (0,0)))] ++ ([(k37,Res.obj (.cells cs37.toArray 59 (0,0)))] ++ ([(k27,Res.obj (.cells cs27.toArray 67 (0,0)))] ++ ([(k5,Res.obj (.cells cs5.toArray 9 (0,0)))] ++ ((k2,Res.obj (Obj.cells #[(.slice none 0 0),(.slice none 0 0),(.slice none 0 0),(.slice none 0 0)] 26 (0,0))) :: σ)))))) (Arx ((List.Perm.append_left ([(k37,Res.obj (.cells cs37.toArray 59 (0,0)))]) ((List.Perm.append_left ([(k27,Res.obj (.cells cs27.toArray 67 (0,0)))]) (List.perm_append_comm_assoc ([(k5,Res.obj (.cells cs5.toArray 9 (0,0)))]) ([(k4,Res.obj (.cells cs4.toArray 9 (0,0)))]) _)).trans (List.perm_append_comm_assoc ([(k27,Res.obj (.cells cs27.toArray 67 (0,0)))]) ([(k4,Res.obj (.cells cs4.toArray 9 (0,0)))]) _))).trans (List.perm_append_comm_assoc ([(k37,Res.obj (.cells cs37.toArray 59 (0,0)))]) ([(k4,Res.obj (.cells cs4.toArray 9 (0,0)))]) _))) ?_
 refine Ca G4 fun ρ38 l38 r38=>?_
 replace G5:=Grow.mono l38 G5
 replace r6:=Asa l38 r6
 replace r7:=Asa l38 r7
 replace r8:=Asa l38 r8
 replace r10:=Asa l38 r10
 replace r12:=Asa l38 r12
 replace r13:=Asa l38 r13
 replace r14:=Asa l38 r14
 replace r15:=Asa l38 r15
 replace r17:=Asa l38 r17
 replace r19:=Asa l38 r19
 replace r20:=Asa l38 r20
 replace r21:=Asa l38 r21
 replace r22:=Asa l38 r22
 replace r24:=Asa l38 r24
 replace r26:=Asa l38 r26
 replace G27:=Grow.mono l38 G27
 replace r29:=Asa l38 r29
 replace r30:=Asa l38 r30
 replace r32:=Asa l38 r32
 replace r33:=Asa l38 r33
 replace r35:=Asa l38 r35
 replace r36:=Asa l38 r36
 replace G37:=Grow.mono l38 G37
 refine Bj (σ':=([(k5,Res.obj (.cells cs5.toArray 9 (0,0)))] ++ ([(k37,Res.obj (.cells cs37.toArray 59 (0,0)))] ++ ([(k27,Res.obj (.cells cs27.toArray 67 (0,0)))] ++ ((k2,Res.obj (Obj.cells #[(.slice none 0 0),(.slice none 0 0),(.slice none 0 0),(.slice none 0 0)] 26 (0,0))) :: σ))))) (Arx ((List.Perm.append_left ([(k37,Res.obj (.cells cs37.toArray 59 (0,0)))]) (List.perm_append_comm_assoc ([(k27,Res.obj (.cells cs27.toArray 67 (0,0)))]) ([(k5,Res.obj (.cells cs5.toArray 9 (0,0)))]) _)).trans (List.perm_append_comm_assoc ([(k37,Res.obj (.cells cs37.toArray 59 (0,0)))]) ([(k5,Res.obj (.cells cs5.toArray 9 (0,0)))]) _))) ?_
 refine Ca G5 fun ρ39 l39 r39=>?_
 replace r6:=Asa l39 r6
 replace r7:=Asa l39 r7
 replace r8:=Asa l39 r8
 replace r10:=Asa l39 r10
 replace r12:=Asa l39 r12
 replace r13:=Asa l39 r13
 replace r14:=Asa l39 r14
 replace r15:=Asa l39 r15
 replace r17:=Asa l39 r17
 replace r19:=Asa l39 r19
 replace r20:=Asa l39 r20
 replace r21:=Asa l39 r21
 replace r22:=Asa l39 r22
 replace r24:=Asa l39 r24
 replace r26:=Asa l39 r26
 replace G27:=Grow.mono l39 G27
 replace r29:=Asa l39 r29
 replace r30:=Asa l39 r30
 replace r32:=Asa l39 r32
 replace r33:=Asa l39 r33
 replace r35:=Asa l39 r35
 replace r36:=Asa l39 r36
 replace G37:=Grow.mono l39 G37
 replace r38:=Asa l39 r38
 refine Bj (σ':=([(k27,Res.obj (.cells cs27.toArray 67 (0,0)))] ++ ([(k37,Res.obj (.cells cs37.toArray 59 (0,0)))] ++ ((k2,Res.obj (Obj.cells #[(.slice none 0 0),(.slice none 0 0),(.slice none 0 0),(.slice none 0 0)] 26 (0,0))) :: σ)))) (Arx (List.perm_append_comm_assoc ([(k37,Res.obj (.cells cs37.toArray 59 (0,0)))]) ([(k27,Res.obj (.cells cs27.toArray 67 (0,0)))]) _)) ?_
 refine Ca G27 fun ρ40 l40 r40=>?_
 replace r6:=Asa l40 r6
 replace r7:=Asa l40 r7
 replace r8:=Asa l40 r8
 replace r10:=Asa l40 r10
 replace r12:=Asa l40 r12
 replace r13:=Asa l40 r13
 replace r14:=Asa l40 r14
 replace r15:=Asa l40 r15
 replace r17:=Asa l40 r17
 replace r19:=Asa l40 r19
 replace r20:=Asa l40 r20
 replace r21:=Asa l40 r21
 replace r22:=Asa l40 r22
 replace r24:=Asa l40 r24
 replace r26:=Asa l40 r26
 replace r29:=Asa l40 r29
 replace r30:=Asa l40 r30
 replace r32:=Asa l40 r32
 replace r33:=Asa l40 r33
 replace r35:=Asa l40 r35
 replace r36:=Asa l40 r36
 replace G37:=Grow.mono l40 G37
 replace r38:=Asa l40 r38
 replace r39:=Asa l40 r39
 refine Ca G37 fun ρ41 l41 r41=>?_
 replace r6:=Asa l41 r6
 replace r7:=Asa l41 r7
 replace r8:=Asa l41 r8
 replace r10:=Asa l41 r10
 replace r12:=Asa l41 r12
 replace r13:=Asa l41 r13
 replace r14:=Asa l41 r14
 replace r15:=Asa l41 r15
 replace r17:=Asa l41 r17
 replace r19:=Asa l41 r19
 replace r20:=Asa l41 r20
 replace r21:=Asa l41 r21
 replace r22:=Asa l41 r22
 replace r24:=Asa l41 r24
 replace r26:=Asa l41 r26
 replace r29:=Asa l41 r29
 replace r30:=Asa l41 r30
 replace r32:=Asa l41 r32
 replace r33:=Asa l41 r33
 replace r35:=Asa l41 r35
 replace r36:=Asa l41 r36
 replace r38:=Asa l41 r38
 replace r39:=Asa l41 r39
 replace r40:=Asa l41 r40
 have r42:Val ρ41 (.agg #[(.slice (some ⟨k4,0,none⟩) 3 3),(.slice (some ⟨k5,0,none⟩) 2 2),(.slice (some ⟨k27,0,none⟩) 3 3),(.slice (some ⟨k37,0,none⟩) 3 3)]) (⟨([(ByteArray.mk #[97,110,97]),(ByteArray.mk #[114,117,105]),(ByteArray.mk #[115,111,108])]:List ByteArray),([(ByteArray.mk #[105,114,111,110]),(ByteArray.mk #[115,97,108,116])]:List ByteArray),([(⟨(ByteArray.mk #[104,105,108,108]),0,⟨90,100⟩,([(⟨10,20⟩:Span),(⟨5,9⟩:Span)]:List Span)⟩:FField),(⟨(ByteArray.mk #[108,111,119]),1,⟨40,50⟩,([(⟨30,40⟩:Span),(⟨5,6⟩:Span)]:List Span)⟩:FField),(⟨(ByteArray.mk #[101,97,115,116]),2,⟨60,70⟩,([(⟨10,15⟩:Span),(⟨20,30⟩:Span)]:List Span)⟩:FField)]:List FField),([(⟨120,([0,1]:List Int)⟩:Sale),(⟨60,([1]:List Int)⟩:Sale),(⟨50,([2]:List Int)⟩:Sale)]:List Sale)⟩:Market):=Market.shut (x:=(⟨([(ByteArray.mk #[97,110,97]),(ByteArray.mk #[114,117,105]),(ByteArray.mk #[115,111,108])]:List ByteArray),([(ByteArray.mk #[105,114,111,110]),(ByteArray.mk #[115,97,108,116])]:List ByteArray),([(⟨(ByteArray.mk #[104,105,108,108]),0,⟨90,100⟩,([(⟨10,20⟩:Span),(⟨5,9⟩:Span)]:List Span)⟩:FField),(⟨(ByteArray.mk #[108,111,119]),1,⟨40,50⟩,([(⟨30,40⟩:Span),(⟨5,6⟩:Span)]:List Span)⟩:FField),(⟨(ByteArray.mk #[101,97,115,116]),2,⟨60,70⟩,([(⟨10,15⟩:Span),(⟨20,30⟩:Span)]:List Span)⟩:FField)]:List FField),([(⟨120,([0,1]:List Int)⟩:Sale),(⟨60,([1]:List Int)⟩:Sale),(⟨50,([2]:List Int)⟩:Sale)]:List Sale)⟩:Market)) r38 r39 r40 r41
 refine Aa rfl (Dm (ns:=[1,1,1,1]) (vs:=[(0,(.slice (some ⟨k4,0,none⟩) 3 3)),(1,(.slice (some ⟨k5,0,none⟩) 2 2)),(2,(.slice (some ⟨k27,0,none⟩) 3 3)),(3,(.slice (some ⟨k37,0,none⟩) 3 3))]) (zc:=Aml) (cs:=[(.slice (some ⟨k4,0,none⟩) 3 3),(.slice (some ⟨k5,0,none⟩) 2 2),(.slice (some ⟨k27,0,none⟩) 3 3),(.slice (some ⟨k37,0,none⟩) 3 3)]) Tryd.underlying26 Aoj rfl ⟨⟨_,Ab Tryd.typeInfo22,rfl⟩,⟨_,Ab Tryd.typeInfo22,rfl⟩,⟨_,Ab Tryd.typeInfo23,rfl⟩,⟨_,Ab Tryd.typeInfo24,rfl⟩,trivial⟩ (EvB.map ⟨⟨rfl,rfl⟩,⟨rfl,rfl⟩,⟨rfl,rfl⟩,⟨rfl,rfl⟩,trivial⟩) ((Bd (cs:=[(.slice (some ⟨k4,0,none⟩) 3 3)]) (Val.cells_l r38) rfl (Nat.le_of_ble_eq_true rfl)).trans ((Bd (cs:=[(.slice (some ⟨k5,0,none⟩) 2 2)]) (Val.cells_l r39) rfl (Nat.le_of_ble_eq_true rfl)).trans ((Bd (cs:=[(.slice (some ⟨k27,0,none⟩) 3 3)]) (Val.cells_l r40) rfl (Nat.le_of_ble_eq_true rfl)).trans ((Bd (cs:=[(.slice (some ⟨k37,0,none⟩) 3 3)]) (Val.cells_l r41) rfl (Nat.le_of_ble_eq_true rfl)).trans rfl))))) ?_
 refine Cx rfl (Ld (i:=0) (vs:=[(.slice (some ⟨k4,0,none⟩) 3 3),(.slice (some ⟨k5,0,none⟩) 2 2),(.slice (some ⟨k27,0,none⟩) 3 3),(.slice (some ⟨k37,0,none⟩) 3 3)]) (c':=[(.slice (some ⟨k4,0,none⟩) 3 3),(.slice (some ⟨k5,0,none⟩) 2 2),(.slice (some ⟨k27,0,none⟩) 3 3),(.slice (some ⟨k37,0,none⟩) 3 3)]) ⟨_,Ab Tryd.typeInfo26,rfl⟩ rfl rfl rfl rfl (Xv ⟨(Val.single_l r38),(Val.single_l r39),(Val.single_l r40),(Val.single_l r41),trivial⟩) rfl (Nat.le_of_ble_eq_true rfl) rfl ?_)
 apply Ac
 apply k3
 refine Aq ?_
 have r43:Val ρ41 (.agg #[(.slice (some ⟨k4,0,none⟩) 3 3),(.slice (some ⟨k5,0,none⟩) 2 2),(.slice (some ⟨k27,0,none⟩) 3 3),(.slice (some ⟨k37,0,none⟩) 3 3)]) (⟨([(ByteArray.mk #[97,110,97]),(ByteArray.mk #[114,117,105]),(ByteArray.mk #[115,111,108])]:List ByteArray),([(ByteArray.mk #[105,114,111,110]),(ByteArray.mk #[115,97,108,116])]:List ByteArray),([(⟨(ByteArray.mk #[104,105,108,108]),0,⟨90,100⟩,([(⟨10,20⟩:Span),(⟨5,9⟩:Span)]:List Span)⟩:FField),(⟨(ByteArray.mk #[108,111,119]),1,⟨40,50⟩,([(⟨30,40⟩:Span),(⟨5,6⟩:Span)]:List Span)⟩:FField),(⟨(ByteArray.mk #[101,97,115,116]),2,⟨60,70⟩,([(⟨10,15⟩:Span),(⟨20,30⟩:Span)]:List Span)⟩:FField)]:List FField),([(⟨120,([0,1]:List Int)⟩:Sale),(⟨60,([1]:List Int)⟩:Sale),(⟨50,([2]:List Int)⟩:Sale)]:List Sale)⟩:Market):=Market.shut (x:=(⟨([(ByteArray.mk #[97,110,97]),(ByteArray.mk #[114,117,105]),(ByteArray.mk #[115,111,108])]:List ByteArray),([(ByteArray.mk #[105,114,111,110]),(ByteArray.mk #[115,97,108,116])]:List ByteArray),([(⟨(ByteArray.mk #[104,105,108,108]),0,⟨90,100⟩,([(⟨10,20⟩:Span),(⟨5,9⟩:Span)]:List Span)⟩:FField),(⟨(ByteArray.mk #[108,111,119]),1,⟨40,50⟩,([(⟨30,40⟩:Span),(⟨5,6⟩:Span)]:List Span)⟩:FField),(⟨(ByteArray.mk #[101,97,115,116]),2,⟨60,70⟩,([(⟨10,15⟩:Span),(⟨20,30⟩:Span)]:List Span)⟩:FField)]:List FField),([(⟨120,([0,1]:List Int)⟩:Sale),(⟨60,([1]:List Int)⟩:Sale),(⟨50,([2]:List Int)⟩:Sale)]:List Sale)⟩:Market)) r38 r39 r40 r41
 refine hret _ _ _ _ _ [(.agg #[(.slice (some ⟨k4,0,none⟩) 3 3),(.slice (some ⟨k5,0,none⟩) 2 2),(.slice (some ⟨k27,0,none⟩) 3 3),(.slice (some ⟨k37,0,none⟩) 3 3)])] ⟨(Qm ⟨_,Tryd.underlying26,rfl⟩ ⟨_,Ab Tryd.typeInfo26,rfl⟩ rfl (i:=0) rfl rfl),trivial⟩ Ghost.drop ?_
 refine ⟨(Arz (Arz (Arz (Arz (Arz (Arz (Arz (Arz (Arz (Arz (Arz (Arz (Arz (Arz (Arz (Arz (Arz (Arz l6 l7) l8) l10) l13) l14) l15) l17) l20) l21) l22) l24) l29) l32) l35) l38) l39) l40) l41),rfl,Aci (v:=(.agg #[(.slice (some ⟨k4,0,none⟩) 3 3),(.slice (some ⟨k5,0,none⟩) 2 2),(.slice (some ⟨k27,0,none⟩) 3 3),(.slice (some ⟨k37,0,none⟩) 3 3)])) rfl (Val.cast ?_ r43)⟩
 ·rfl
end Go.Proofs.YtoefdnbaklajeaaDoor

namespace Go.Proofs.YtoefdnbaklajeaaDoor
open Go
def trB (tr:List Bool) (s:Nat):Bool:=tr.getD s false
theorem Ip {tr:List Bool} {s k:Nat} {b:Bool} (hs:s < tr.length):trB (tr.set s b) k = if k = s then b else trB tr k:=by
  unfold trB
  rw [List.getD_eq_getElem?_getD,List.getD_eq_getElem?_getD,List.getElem?_set]
  by_cases h:s = k
  · subst h; simp [hs]
  · simp [h,Ne.symm h]
theorem Amh {tr:List Bool} {s:Nat} (hs:s < tr.length):tr[s]? = some (trB tr s):=by
  unfold trB; rw [List.getD_eq_getElem?_getD,List.getElem?_eq_getElem hs]; rfl
theorem Pj {xs:List Int} {i:Nat} (h:i < xs.length):xs[i]? = some (xg xs i):=by
  unfold xg; rw [List.getD_eq_getElem?_getD,List.getElem?_eq_getElem h]; rfl
theorem Alr {n k:Nat} {f:Nat→Int} (h:∀ i,i < n→0 ≤ f i) (hk:k < n):f k ≤ Df n f:=by
  induction n with
  | zero=>omega
  | succ n ih =>
    simp only [Df]
    by_cases e:k = n
    · subst e
      have:=Sb (n:=k) (f:=f) fun i hi=>h i (by omega)
      omega
    · have:=ih (fun i hi=>h i (by omega)) (by omega)
      have:=h n (by omega)
      omega
theorem FlowOk.pt_le {sl:Nat→Nat→Bool} {cap:Nat→Int} {xs:List Int} (ok:FlowOk sl cap xs) {s h:Nat} (hs:s < 8) (hh:h < 5):pt xs s h ≤ cap h:=by
  have h1:=ok.all h hh
  have h2:=ok.left h hh
  have h3:=Alr (n:=8) (f:=fun s=>pt xs s h) (fun i hi=>ok.pos i h hi hh) hs
  omega
theorem FlowOk.lf_le {sl:Nat→Nat→Bool} {cap:Nat→Int} {xs:List Int} (ok:FlowOk sl cap xs) {h:Nat} (hh:h < 5):lf xs h ≤ cap h:=by
  have h1:=ok.all h hh
  have h3:=Sb (n:=8) (f:=fun s=>pt xs s h) (fun i hi=>ok.pos i h hi hh)
  omega
/-- What one call of move does. -/
structure MoveP (sl:Nat→Nat→Bool) (cap:Nat→Int) (sale:Nat) (grams:Int) (xs:List Int) (tr:List Bool) (n:Int) (xs':List Int) (tr':List Bool):Prop where
  len:tr'.length = 8
  mono:∀ s,trB tr s = true→trB tr' s = true
  own:trB tr' sale = true
  ok:FlowOk sl cap xs'
  res:(n = 0∧xs' = xs∧Clo sl xs (trB tr) (trB tr'))∨(0 < n∧n ≤ grams∧Fv xs' sale = Fv xs sale + n∧(∀ s,s < 8→s ≠ sale→Fv xs' s = Fv xs s)∧(∀ s,s < 8→trB tr s = true→∀ h,h < 5→pt xs' s h = pt xs s h)∧∀ h,h < 5→pt xs sale h ≤ pt xs' sale h)
section
variable {sl:Nat→Nat→Bool} {cap:Nat→Int} {sale o h:Nat} {grams n:Int} {xs xs':List Int} {tr trk tr':List Bool}
theorem MoveP.n0 (h:MoveP sl cap sale grams xs tr n xs' tr'):0 ≤ n:=by rcases h.res with h | h <;> omega
theorem MoveP.le (h:MoveP sl cap sale grams xs tr n xs' tr'):n = 0∨n ≤ grams:=by rcases h.res with h | h <;> omega
theorem MoveP.zero (h:MoveP sl cap sale grams xs tr n xs' tr') (hn:¬ 0 < n):n = 0∧xs' = xs∧Clo sl xs (trB tr) (trB tr'):=h.res.resolve_right fun h'=>hn h'.1
theorem Afy (ok:FlowOk sl cap xs) (hl:tr.length = 8) (hs:sale < 8) (hh:h < 5) (hsl:sl sale h = true) (ht:trB tr sale = false) (hn:0 < n) (hg:n ≤ grams) (hx:n ≤ xg xs (40 + h)):MoveP sl cap sale grams xs tr n (give xs sale h n) (tr.set sale true):=by
  have hx':n ≤ lf xs h:=hx
  refine ⟨by simpa using hl,fun s h1=>?_,by rw [Ip (by omega),if_pos rfl],ok.give hs hh (by omega) hx' hsl,.inr ⟨hn,hg,?_,fun s hs' hne=>?_,fun s hs' h1 k hk=>?_,fun k hk=>?_⟩⟩
  · rw [Ip (by omega)]; split
    · rfl
    · exact h1
  · rw [Vq ok.len hs hh hs,if_pos rfl]
  · rw [Vq ok.len hs hh hs',if_neg hne]
  · rw [Sf ok.len hs hh hs' hk,if_neg]
    rintro ⟨rfl,_⟩; rw [ht] at h1; cases h1
  · rw [Sf ok.len hs hh hs hk]
    split
    · rename_i e; rw [e.2]; omega
    · exact Int.le_refl _
theorem Aba (hlen:tr.length = 8) (hs:sale < 8) (ho:o < 8) (hh:h < 5) (hsl:sl sale h = true) (ht:trB tr sale = false) (hm:∀ s,trB (tr.set sale true) s = true→trB trk s = true) (hto:trB trk o = false) (hp0:xg xs (o * 5 + h) ≠ 0) {g:Int} (hg1:g ≤ grams) (hg2:g ≤ xg xs (o * 5 + h))
    (H:MoveP sl cap o g xs trk n xs' tr') (hn:0 < n):MoveP sl cap sale grams xs tr n (shift xs' o sale h n) tr':=by
  have hts:trB trk sale = true:=hm sale (by rw [Ip (by omega),if_pos rfl])
  have hos:o ≠ sale:=by rintro rfl; rw [hts] at hto; cases hto
  obtain ⟨_,h2,h3,h4,h5,h6⟩:=H.res.resolve_left fun h'=>by omega
  have ok':=H.ok
  have h7:pt xs o h ≤ pt xs' o h:=h6 h hh
  have hg2':g ≤ pt xs o h:=hg2
  have hmt:∀ s,trB tr s = true→trB trk s = true:=fun s h1=>hm s (by
    rw [Ip (by omega)]; split
    · rfl
    · exact h1)
  have hrow:∀ k,k < 5→pt xs' sale k = pt xs sale k:=fun k hk=>h5 sale hs hts k hk
  refine ⟨H.len,fun s h1=>H.mono s (hmt s h1),H.mono sale hts,ok'.shift hos ho hs hh (by omega) (by omega) hsl (by omega),.inr ⟨hn,by omega,?_,fun s hs' hne=>?_,fun s hs' h1 k hk=>?_,fun k hk=>?_⟩⟩
  · rw [Sr ok'.len hos ho hs hh hs,if_pos rfl,h4 sale hs (Ne.symm hos)]
  · rw [Sr ok'.len hos ho hs hh hs',if_neg hne]
    split
    · rename_i e; subst e; omega
    · rename_i e; exact h4 s hs' e
  · have h8:s ≠ sale:=by rintro rfl; rw [ht] at h1; cases h1
    have h9:s ≠ o:=by rintro rfl; rw [hmt _ h1] at hto; cases hto
    rw [Pn ok'.len hos ho hs hh hs' hk,if_neg h8,if_neg h9,ite_self]
    exact h5 s hs' (hmt s h1) k hk
  · rw [Pn ok'.len hos ho hs hh hs hk,if_pos rfl]
    split
    · rename_i e; subst e; rw [hrow k hk]; omega
    · rw [hrow k hk]; exact Int.le_refl _
theorem Aef (ok:FlowOk sl cap xs) (hl:tr.length = 8) (hk:trk.length = 8) (hs:sale < 8) (hm:∀ s,trB (tr.set sale true) s = true→trB trk s = true) (hc:Clo sl xs (trB (tr.set sale true)) (trB trk))
    (hz:∀ h,h < 5→sl sale h = true→xg xs (40 + h) = 0) (ht:∀ h,h < 5→sl sale h = true→∀ o,o < 8→pt xs o h ≠ 0→trB trk o = true):MoveP sl cap sale grams xs tr 0 xs trk:=by
  refine ⟨hk,fun s h1=>hm s ?_,hm sale (by rw [Ip (by omega),if_pos rfl]),ok,.inl ⟨rfl,rfl,fun s hs' h1 h2 k hk' hsl=>?_⟩⟩
  · rw [Ip (by omega)]; split
    · rfl
    · exact h1
  · by_cases e:s = sale
    · subst e; exact ⟨hz k hk' hsl,ht k hk' hsl⟩
    · exact hc s hs' (by rw [Ip (by omega),if_neg e]; exact h1) h2 k hk' hsl
/-- How many sales have not been tried. -/
def Adc (tr:List Bool):Nat:=((List.range 8).filter fun s=>!trB tr s).length
theorem Ahq {tr tr':List Bool} (hm:∀ s,trB tr s = true→trB tr' s = true) (hs:sale < 8) (h0:trB tr sale = false) (h1:trB tr' sale = true):Adc tr' < Adc tr:=by
  unfold Adc
  have key:∀ (l:List Nat),(l.filter fun s=>!trB tr' s).length ≤ (l.filter fun s=>!trB tr s).length∧(sale ∈ l→(l.filter fun s=>!trB tr' s).length < (l.filter fun s=>!trB tr s).length):=by
    intro l
    induction l with
    | nil=>simp
    | cons a l ih =>
      obtain ⟨ih1,ih2⟩:=ih
      have h2:((a :: l).filter fun s=>!trB tr s) = (if trB tr a then [] else [a]) ++ l.filter fun s=>!trB tr s:=by
        rw [List.filter_cons]; cases trB tr a <;> simp
      have h3:((a :: l).filter fun s=>!trB tr' s) = (if trB tr' a then [] else [a]) ++ l.filter fun s=>!trB tr' s:=by
        rw [List.filter_cons]; cases trB tr' a <;> simp
      rw [h2,h3,List.length_append,List.length_append]
      have h4:(if trB tr' a then ([]:List Nat) else [a]).length ≤ (if trB tr a then ([]:List Nat) else [a]).length:=by
        cases ha:trB tr a with
        | true=>rw [hm a ha]; simp
        | false=>cases trB tr' a <;> simp
      refine ⟨by omega,fun hmem=>?_⟩
      rcases List.mem_cons.1 hmem with rfl | hmem
      · rw [h0,h1]; simp; omega
      · have:=ih2 hmem; omega
  exact (key (List.range 8)).2 (List.mem_range.2 hs)
end
theorem Lt {sl:Nat→Nat→Bool} {cap:Nat→Int} {xs:List Int} (ok:FlowOk sl cap xs) (hcap:∀ h,h < 5→cap h ≤ 8000000) {i:Nat} (hi:i < 45):0 ≤ xg xs i∧xg xs i ≤ 8000000:=by
  by_cases h:i < 40
  · have e:i = i / 5 * 5 + i % 5:=by omega
    have h1:=ok.pos (i / 5) (i % 5) (by omega) (by omega)
    have h2:=ok.pt_le (s:=i / 5) (h:=i % 5) (by omega) (by omega)
    have h3:=hcap (i % 5) (by omega)
    unfold pt at h1 h2
    rw [← e] at h1 h2
    omega
  · have e:i = 40 + (i - 40):=by omega
    have h1:=ok.left (i - 40) (by omega)
    have h2:=ok.lf_le (h:=i - 40) (by omega)
    have h3:=hcap (i - 40) (by omega)
    unfold lf at h1 h2
    rw [← e] at h1 h2
    omega
theorem Apm {xs:List Int} {i k:Nat} {v:Int} (h:k ≠ i):xg (xs.set i v) k = xg xs k:=by
  unfold xg
  rw [List.getD_eq_getElem?_getD,List.getD_eq_getElem?_getD,List.getElem?_set_ne (Ne.symm h)]
theorem Wq {sl:Nat→Nat→Bool} {cap:Nat→Int} {xs:List Int} (ok:FlowOk sl cap xs) (hcap:∀ h,h < 5→cap h ≤ 8000000) {i k:Nat} {v:Int} (hk:k < 45) (h:k ≠ i):0 ≤ xg (xs.set i v) k∧xg (xs.set i v) k ≤ 8000000:=by
  rw [Apm h]; exact Lt ok hcap hk
theorem Aag {m:Market} {s:Sale} {i k x:Nat} (hs:m.sales[i]? = some s) (hx:s.sellers[k]? = some (x:Int)):Ds m i x = true:=by
  unfold Ds Gp
  rw [hs]
  exact List.any_eq_true.2 ⟨_,List.mem_of_getElem? hx,by simp⟩
theorem Vl {m:Market} {s:Sale} {i x:Nat} (hs:m.sales[i]? = some s) (h:Ds m i x = true):∃ k,k < s.sellers.length∧s.sellers[k]? = some (x:Int):=by
  unfold Ds Gp at h
  rw [hs] at h
  obtain ⟨y,hy,he⟩:=List.any_eq_true.1 h
  have he:y = (x:Int):=by simpa using he
  subst he
  obtain ⟨k,hk⟩:=List.getElem?_of_mem hy
  exact ⟨k,(List.getElem?_eq_some_iff.1 hk).1,hk⟩
theorem Ait {m:Market} {i h:Nat} (h1:Ds m i h = true):i < m.sales.length:=by
  rcases Nat.lt_or_ge i m.sales.length with hlt | hge
  · exact hlt
  · unfold Ds at h1; rw [List.getElem?_eq_none hge] at h1; cases h1
/-- Seller number j has nothing left. -/
def Amp (xs:List Int) (l:List Int) (j:Nat):Prop:=∀ x:Nat,l[j]? = some (x:Int)→xg xs (40 + x) = 0
/-- Whatever house x sells of sale o,that sale has been tried. -/
def TriO (xs:List Int) (tr:List Bool) (x o:Nat):Prop:=xg xs (o * 5 + x) ≠ 0→trB tr o = true
def TriZ (xs:List Int) (tr:List Bool) (l:List Int) (j:Nat):Prop:=∀ x:Nat,l[j]? = some (x:Int)→∀ o,o < 8→TriO xs tr x o
theorem TriZ.mono {xs:List Int} {tr tr':List Bool} {l:List Int} {k:Nat} (hm:∀ s,trB tr s = true→trB tr' s = true) (h:∀ j,j < k→TriZ xs tr l j):∀ j,j < k→TriZ xs tr' l j:=fun j hj x hx o ho h0=>hm o (h j hj x hx o ho h0)
theorem TriO.mono {xs:List Int} {tr tr':List Bool} {x k:Nat} (hm:∀ s,trB tr s = true→trB tr' s = true) (h:∀ o,o < k→TriO xs tr x o):∀ o,o < k→TriO xs tr' x o:=fun o ho h0=>hm o (h o ho h0)
theorem TriO.all {m:Market} {cap:Nat→Int} {xs:List Int} {tr:List Bool} {l:List Int} {x k j:Nat} (ok:FlowOk (Ds m) cap xs) (hx5:x < 5) (hk:m.sales.length ≤ k) (hx:l[j]? = some (x:Int)) (h:∀ o,o < k→TriO xs tr x o):TriZ xs tr l j:=fun y hy o ho h0=>by
  rw [hx] at hy
  obtain rfl:x = y:=by have:=Option.some.inj hy; omega
  have h1:=ok.sells o x ho hx5 h0
  exact h o (Nat.lt_of_lt_of_le (Ait h1) hk) h0
theorem Ajf {m:Market} {s:Sale} {xs:List Int} {i k:Nat} (hs:m.sales[i]? = some s) (hk:s.sellers.length ≤ k) (h:∀ j,j < k→Amp xs s.sellers j):∀ h,h < 5→Ds m i h = true→xg xs (40 + h) = 0:=fun x _ hx=>by
  obtain ⟨j,h1,h2⟩:=Vl hs hx
  exact h j (by omega) x h2
theorem Amk {m:Market} {s:Sale} {xs:List Int} {tr:List Bool} {i k:Nat} (hs:m.sales[i]? = some s) (hk:s.sellers.length ≤ k) (h:∀ j,j < k→TriZ xs tr s.sellers j):∀ h,h < 5→Ds m i h = true→∀ o,o < 8→pt xs o h ≠ 0→trB tr o = true:=fun x _ hx o ho h0=>by
  obtain ⟨j,h1,h2⟩:=Vl hs hx
  exact h j (by omega) x h2 o ho h0
end Go.Proofs.YtoefdnbaklajeaaDoor

namespace Go.Proofs.YtoefdnbaklajeaaDoor
open Go
set_option maxHeartbeats 2000000 in
set_option maxRecDepth 100000 in
theorem Anj {mn:Bool} {X:Frame→List Frame→Ro→Own→Cy→Prop} {ρ:Ro} {σ:Own} {m:Market} {cap:Nat→Int} {sale rx rt:Nat} {g:Int} {xs:List Int} {tr:List Bool} {vh vk vf vs g0 g1 g2 g3 g4:Value} (rs:Val ρ vs m.sales) (ok:MarketOk m) (hcap:∀ h,h < 5→cap h ≤ 8000000) (hF:FlowOk (Ds m) cap xs) (hs:sale < m.sales.length) (hg:0 < g) (hg2:g ≤ 8000000) (htl:tr.length = 8) (ht:trB tr sale = false):CallsH (CX mn X) 128 #[(.pointer (some ⟨rx,0,none⟩)),(iV ((sale:Int))),(iV (g)),(.pointer (some ⟨rt,0,none⟩))] ρ (((rt,Res.obj (Obj.cells (tr.map Value.bool).toArray 201 (0,0))) :: ((rx,Res.obj (Obj.cells ([vh,vk,vf,vs,g0,g1,g2,g3,g4] ++ xs.map (Value.int .i64)).toArray 198 (0,0))) :: σ))) (fun w ρ' σ'=>ρ' = ρ∧∃ n xs' tr',w = .int .i64 n∧σ' = (rt,.obj (.cells (tr'.map Value.bool).toArray 201 (0,0))) :: (rx,.obj (.cells ([vh,vk,vf,vs,g0,g1,g2,g3,g4] ++ xs'.map (Value.int .i64)).toArray 198 (0,0))) :: σ∧MoveP (Ds m) cap sale g xs tr n xs' tr'):=by
 have hn8:=ok.nsales
 have hh5:=Hp ok
 obtain ⟨N,hN⟩:∃ N,N = Adc tr:=⟨_,rfl⟩
 induction N using Nat.strongRecOn generalizing sale g xs tr
 rename_i N ih
 refine Bh (n:=160) (args:=[(.pointer (some ⟨rx,0,none⟩)),(iV ((sale:Int))),(iV (g)),(.pointer (some ⟨rt,0,none⟩))]) [8] Tryd.func128 rfl rfl rfl rfl fun Q hret hnor=>?_
 refine w_q rfl rfl fun K1 k1=>?_
 refine l_A (iV (0)) rfl rfl ?_
 apply Ac
 apply k1
 refine w_q rfl rfl fun K2 k2=>?_
 refine l_M (.pointer (some ⟨rt,0,none⟩)) rfl rfl ?_
 refine l_M (iV ((sale:Int))) rfl rfl ?_
 refine Aa rfl (Ck rfl) ?_
 refine Aa rfl (Cq (k':=1) sale Tryd.underlying201 ⟨_,Ab Tryd.typeInfo4,rfl⟩ rfl (q:=(sale:Int)) rfl rfl (by omega) (off':=sale) (by omega)) ?_
 refine Cx rfl (Zp (j:=0) (f:=Value.bool) (i:=sale) (bv:=true) ⟨_,Ab Tryd.typeInfo4,rfl⟩ rfl rfl rfl rfl (by rw [htl]; omega) ?_)
 apply Ac
 apply k2
 refine Ai fun K3 k3=>?_
 refine w_q rfl rfl fun K4 k4=>?_
 refine l_M (.pointer (some ⟨rx,0,none⟩)) rfl rfl ?_
 refine Aa rfl (Ck rfl) ?_
 refine Aa rfl (Cb (off':=0) Tryd.underlying198 rfl rfl ⟨_,Ab Tryd.typeInfo133,rfl⟩ (by decide) rfl rfl) ?_
 refine Aa rfl (Cb (off':=0) Tryd.underlying133 rfl rfl ⟨_,Ab Tryd.typeInfo26,rfl⟩ (by decide) rfl rfl) ?_
 refine Aa rfl (Cb (off':=3) Tryd.underlying26 rfl rfl ⟨_,Ab Tryd.typeInfo24,rfl⟩ (by decide) rfl rfl) ?_
 refine Ae rfl (Dt (i:=1) (v:=vs) ⟨_,Tryd.underlying24,rfl⟩ rfl rfl rfl ?_)
 refine l_M (iV ((sale:Int))) rfl rfl ?_
 obtain ⟨a6,ha6⟩:=Ed (xs:=m.sales) (i:=sale) (by omega)
 have gs_a6:=ok.sale _ _ ha6
 refine Ak rfl (Ci sale Tryd.underlying24 Su rfl rs (q:=(sale:Int)) rfl rfl ha6) fun v5 r5=>?_
 refine Ak rfl (Ay Sale.f_sellers Tryd.underlying59 rfl rfl Vg (by decide) rfl r5) fun v7 r7=>?_
 refine Ak rfl (Ax Vg rfl r7) fun v8 r8=>?_
 have g9:=Val.len r8
 refine Aa rfl (Ce (el:=3) Tryd.underlying30 rfl r8) ?_
 refine l_M (iV (0)) rfl rfl ?_
 apply Ac
 apply k4
 refine Ao ?_
 refine Cc (fun mm ee dd ρ' σ'=>∃ (i:Nat),(a6.sellers.length - i) = mm∧[] = dd∧ρ = ρ'∧((rt,Res.obj (Obj.cells (((tr.set sale true)).map Value.bool).toArray 201 (0,0))) :: ((rx,Res.obj (Obj.cells ([vh,vk,vf,vs,g0,g1,g2,g3,g4] ++ xs.map (Value.int .i64)).toArray 198 (0,0))) :: σ)) = σ'∧ee 0 = (.pointer (some ⟨rx,0,none⟩))∧ee 1 = (iV ((sale:Int)))∧ee 2 = (iV (g))∧ee 3 = (.pointer (some ⟨rt,0,none⟩))∧ee 29 = v8∧ee 30 = (iV (((a6.sellers.length:Nat):Int)))∧ee 31 = (iV ((i:Int)))∧(i ≤ a6.sellers.length)∧(∀ j,j < i→Amp xs a6.sellers j)∧True) (m:=_) ⟨0,rfl,rfl,rfl,rfl,rfl,rfl,rfl,rfl,rfl,rfl,rfl,(Nat.zero_le _),(fun j h=>absurd h (Nat.not_lt_zero _)),trivial⟩ ?_
 rintro m10 e10 _ _ _ ⟨i,rfl,rfl,rfl,rfl,h10_0,h10_1,h10_2,h10_3,h10_29,h10_30,h10_31,p10_0,p10_1,_⟩
 refine w_q rfl rfl fun K11 k11=>?_
 refine Aa rfl (Da (p:=(i:Int)) (q:=((a6.sellers.length:Nat):Int)) h10_31 h10_30) ?_
 apply Ac
 apply k11
 refine Ai fun K12 k12=>?_
 refine As (t:=decide ((i:Int) < ((a6.sellers.length:Nat):Int))) rfl (fun b13=>?_) (fun b13=>?_)
 ·have q13:=of_decide_eq_true b13
  refine Al ?_
  apply k12
  refine Ai fun K14 k14=>?_
  refine Ao ?_
  refine w_q rfl rfl fun K15 k15=>?_
  obtain ⟨a17,ha17⟩:=Ed (xs:=a6.sellers) (i:=i) (by omega)
  have gt_a17:=gs_a6.2.2.1 _ _ ha17
  obtain ⟨x18,hx18⟩:∃ x:Nat,a17 = (x:Int):=⟨a17.toNat,by omega⟩
  subst hx18
  refine Ak rfl (Ci i Tryd.underlying30 ty3 h10_29 r8 (q:=(i:Int)) h10_31 rfl ha17) fun v16 r16=>?_
  have ⟨g19a,g19b⟩:=At.rng r16
  refine Aa rfl (Bc ty3 rfl r16) ?_
  refine l_A (iV ((x18:Int))) rfl rfl ?_
  apply Ac
  apply k15
  refine w_q rfl rfl fun K20 k20=>?_
  refine Aa rfl (Ah (v:=(iV (g))) h10_2) ?_
  refine Aa rfl (Ah (v:=(.pointer (some ⟨rx,0,none⟩))) h10_0) ?_
  refine l_M (iV ((x18:Int))) rfl rfl ?_
  refine Aa rfl (Ck rfl) ?_
  refine Aa rfl (Cb (off':=49) Tryd.underlying198 rfl rfl ⟨_,Ab Tryd.typeInfo130,rfl⟩ (by decide) rfl rfl) ?_
  refine Aa rfl (Cq (k':=1) x18 Tryd.underlying130 ⟨_,Ab Tryd.typeInfo3,rfl⟩ rfl (q:=(x18:Int)) rfl rfl (by omega) (off':=(9 + (40 + x18))) (by omega)) ?_
  have hr21:0 ≤ xg xs ((40 + x18))∧xg xs ((40 + x18)) ≤ 8000000:=Lt hF hcap (by omega)
  refine Ae rfl (Mt (j:=1) (f:=(Value.int .i64)) (pc:=[vh,vk,vf,vs,g0,g1,g2,g3,g4]) (i:=(40 + x18)) (bv:=xg xs ((40 + x18))) ⟨_,Tryd.underlying3,rfl⟩ rfl rfl rfl (Pj (by rw [hF.len]; omega)) ?_)
  refine Aa rfl (Aju (p:=g) (q:=xg xs ((40 + x18))) rfl rfl) ?_
  refine l_A (iV ((min g (xg xs ((40 + x18)))))) rfl rfl ?_
  apply Ac
  apply k20
  refine w_q rfl rfl fun K22 k22=>?_
  refine l_M (iV ((min g (xg xs ((40 + x18)))))) rfl rfl ?_
  refine Aa rfl (Gk (p:=(min g (xg xs ((40 + x18))))) (q:=0) rfl rfl) ?_
  apply Ac
  apply k22
  refine As (t:=decide ((min g (xg xs ((40 + x18)))) > 0)) rfl (fun b23=>?_) (fun b23=>?_)
  ·have q23:=of_decide_eq_true b23
   refine Ai fun K24 k24=>?_
   refine Dc [0,1,2,3,4,5,6,7,8,9,10,11] (by kernel_rfl) rfl rfl ?_
   refine Be (i:=0) [o1,o0,o0,o0,o0,o0,o0,o0,o0,o0,o0,o0] rfl (by kernel_rfl) rfl Ary rfl (Ah (v:=(.pointer (some ⟨rx,0,none⟩))) h10_0) ?_
   refine Be (i:=1) [o1,o1,o0,o0,o0,o0,o0,o0,o0,o0,o0,o0] rfl (by kernel_rfl) rfl Ary rfl (Ah (v:=(iV ((x18:Int)))) rfl) ?_
   refine Be (i:=2) [o1,o1,o1,o0,o0,o0,o0,o0,o0,o0,o0,o0] rfl (by kernel_rfl) rfl Ary rfl (Ck rfl) ?_
   refine Be (i:=3) [o1,o1,o1,o1,o0,o0,o0,o0,o0,o0,o0,o0] rfl (by kernel_rfl) rfl Ary rfl (Cb (off':=49) Tryd.underlying198 rfl rfl ⟨_,Ab Tryd.typeInfo130,rfl⟩ (by decide) rfl rfl) ?_
   refine Be (i:=4) [o1,o1,o1,o1,o1,o0,o0,o0,o0,o0,o0,o0] rfl (by kernel_rfl) rfl Ary rfl (Cq (k':=1) x18 Tryd.underlying130 ⟨_,Ab Tryd.typeInfo3,rfl⟩ rfl (q:=(x18:Int)) rfl rfl (by omega) (off':=(9 + (40 + x18))) (by omega)) ?_
   refine Be (i:=6) [o1,o1,o1,o1,o1,o0,o1,o0,o0,o0,o0,o0] rfl (by kernel_rfl) rfl Ary rfl (Ah (v:=(iV ((min g (xg xs ((40 + x18))))))) rfl) ?_
   refine Be (i:=8) [o1,o1,o1,o1,o1,o0,o1,o0,o1,o0,o0,o0] rfl (by kernel_rfl) rfl Ary rfl (Ck rfl) ?_
   refine Be (i:=9) [o1,o1,o1,o1,o1,o0,o1,o0,o1,o1,o0,o0] rfl (by kernel_rfl) rfl Ary rfl (Cb (off':=49) Tryd.underlying198 rfl rfl ⟨_,Ab Tryd.typeInfo130,rfl⟩ (by decide) rfl rfl) ?_
   have hr25:0 ≤ xg xs ((40 + x18))∧xg xs ((40 + x18)) ≤ 8000000:=Lt hF hcap (by omega)
   refine Dj (i:=5) [o1,o1,o1,o1,o1,o1,o1,o0,o1,o1,o0,o0] rfl (by kernel_rfl) rfl rfl (Mt (j:=1) (f:=(Value.int .i64)) (pc:=[vh,vk,vf,vs,g0,g1,g2,g3,g4]) (i:=(40 + x18)) (bv:=xg xs ((40 + x18))) ⟨_,Tryd.underlying3,rfl⟩ rfl rfl rfl (Pj (by rw [hF.len]; omega)) ⟨Ary,?_⟩)
   refine Bg (i:=7) Amj rfl (by kernel_rfl) rfl Ary rfl (Oq (p:=xg xs ((40 + x18))) (q:=(min g (xg xs ((40 + x18))))) rfl rfl (z:=(xg xs ((40 + x18)) - (min g (xg xs ((40 + x18)))))) (Bo (by rfl) (by omega) (by omega))) ?_
   refine Bg (i:=10) zZ0 rfl (by kernel_rfl) rfl Ary rfl (Cq (k':=1) x18 Tryd.underlying130 ⟨_,Ab Tryd.typeInfo3,rfl⟩ rfl (q:=(x18:Int)) rfl rfl (by omega) (off':=(9 + (40 + x18))) (by omega)) ?_
   refine Fi (i:=11) zZ1 rfl (by kernel_rfl) rfl rfl (Nc (j:=1) (f:=(Value.int .i64)) (pc:=[vh,vk,vf,vs,g0,g1,g2,g3,g4]) (i:=(40 + x18)) (bv:=(xg xs ((40 + x18)) - (min g (xg xs ((40 + x18)))))) ⟨_,Ab Tryd.typeInfo3,rfl⟩ rfl rfl rfl rfl rfl (by rw [hF.len]; omega) ⟨Ary,?_⟩)
   refine Ec rfl ?_
   apply k24
   refine Ai fun K26 k26=>?_
   refine Dc [0,1,2,3,4,5,6,7,8,9,10,11,12,13,14] (by kernel_rfl) rfl rfl ?_
   refine Be (i:=0) Anc rfl (by kernel_rfl) rfl Ary rfl (Ah (v:=(.pointer (some ⟨rx,0,none⟩))) h10_0) ?_
   refine Be (i:=1) Aop rfl (by kernel_rfl) rfl Ary rfl (Ah (v:=(iV ((sale:Int)))) h10_1) ?_
   refine Be (i:=2) And rfl (by kernel_rfl) rfl Ary rfl (Ah (v:=(iV ((x18:Int)))) rfl) ?_
   refine Be (i:=3) Aot rfl (by kernel_rfl) rfl Ary rfl (Ck rfl) ?_
   refine Be (i:=4) Apg rfl (by kernel_rfl) rfl Ary rfl (Cb (off':=9) Tryd.underlying198 rfl rfl ⟨_,Ab Tryd.typeInfo196,rfl⟩ (by decide) rfl rfl) ?_
   refine Be (i:=5) Anx rfl (by kernel_rfl) rfl Ary rfl (Cq (k':=5) sale Tryd.underlying196 ⟨_,Ab Tryd.typeInfo130,rfl⟩ rfl (q:=(sale:Int)) rfl rfl (by omega) (off':=(9 + sale * 5)) rfl) ?_
   refine Be (i:=6) Amz rfl (by kernel_rfl) rfl Ary rfl (Cq (k':=1) x18 Tryd.underlying130 ⟨_,Ab Tryd.typeInfo3,rfl⟩ rfl (q:=(x18:Int)) rfl rfl (by omega) (off':=(9 + (sale * 5 + x18))) (by omega)) ?_
   refine Be (i:=8) Ang rfl (by kernel_rfl) rfl Ary rfl (Ah (v:=(iV ((min g (xg xs ((40 + x18))))))) rfl) ?_
   refine Be (i:=10) Ape rfl (by kernel_rfl) rfl Ary rfl (Ck rfl) ?_
   refine Be (i:=11) Anv rfl (by kernel_rfl) rfl Ary rfl (Cb (off':=9) Tryd.underlying198 rfl rfl ⟨_,Ab Tryd.typeInfo196,rfl⟩ (by decide) rfl rfl) ?_
   refine Be (i:=12) Aoh rfl (by kernel_rfl) rfl Ary rfl (Cq (k':=5) sale Tryd.underlying196 ⟨_,Ab Tryd.typeInfo130,rfl⟩ rfl (q:=(sale:Int)) rfl rfl (by omega) (off':=(9 + sale * 5)) rfl) ?_
   have hr27:0 ≤ xg ((xs.set ((40 + x18)) ((xg xs ((40 + x18)) - (min g (xg xs ((40 + x18)))))))) ((sale * 5 + x18))∧xg ((xs.set ((40 + x18)) ((xg xs ((40 + x18)) - (min g (xg xs ((40 + x18)))))))) ((sale * 5 + x18)) ≤ 8000000:=Wq hF hcap (by omega) (by omega)
   refine Dj (i:=7) Ane rfl (by kernel_rfl) rfl rfl (Mt (j:=1) (f:=(Value.int .i64)) (pc:=[vh,vk,vf,vs,g0,g1,g2,g3,g4]) (i:=(sale * 5 + x18)) (bv:=xg ((xs.set ((40 + x18)) ((xg xs ((40 + x18)) - (min g (xg xs ((40 + x18)))))))) ((sale * 5 + x18))) ⟨_,Tryd.underlying3,rfl⟩ rfl rfl rfl (Pj (by rw [(List.length_set.trans hF.len)]; omega)) ⟨Ary,?_⟩)
   refine Bg (i:=9) Aod rfl (by kernel_rfl) rfl Ary rfl (Br (p:=xg ((xs.set ((40 + x18)) ((xg xs ((40 + x18)) - (min g (xg xs ((40 + x18)))))))) ((sale * 5 + x18))) (q:=(min g (xg xs ((40 + x18))))) rfl rfl (z:=(xg ((xs.set ((40 + x18)) ((xg xs ((40 + x18)) - (min g (xg xs ((40 + x18)))))))) ((sale * 5 + x18)) + (min g (xg xs ((40 + x18)))))) (Bo (by rfl) (by omega) (by omega))) ?_
   refine Bg (i:=13) Aoc rfl (by kernel_rfl) rfl Ary rfl (Cq (k':=1) x18 Tryd.underlying130 ⟨_,Ab Tryd.typeInfo3,rfl⟩ rfl (q:=(x18:Int)) rfl rfl (by omega) (off':=(9 + (sale * 5 + x18))) (by omega)) ?_
   refine Fi (i:=14) Aoe rfl (by kernel_rfl) rfl rfl (Nc (j:=1) (f:=(Value.int .i64)) (pc:=[vh,vk,vf,vs,g0,g1,g2,g3,g4]) (i:=(sale * 5 + x18)) (bv:=(xg ((xs.set ((40 + x18)) ((xg xs ((40 + x18)) - (min g (xg xs ((40 + x18)))))))) ((sale * 5 + x18)) + (min g (xg xs ((40 + x18)))))) ⟨_,Ab Tryd.typeInfo3,rfl⟩ rfl rfl rfl rfl rfl (by rw [(List.length_set.trans hF.len)]; omega) ⟨Ary,?_⟩)
   refine Ec rfl ?_
   apply k26
   refine w_q rfl rfl fun K28 k28=>?_
   refine l_M (iV ((min g (xg xs ((40 + x18)))))) rfl rfl ?_
   refine l_A (iV ((min g (xg xs ((40 + x18)))))) rfl rfl ?_
   apply Ac
   apply k28
   refine Aq ?_
   refine hret _ _ _ ?_
   refine ⟨rfl,(min g (xg xs ((40 + x18)))),_,_,Eq.trans (b:=(iV ((min g (xg xs ((40 + x18))))))) rfl rfl,rfl,?_⟩
   exact Afy hF htl (by omega) (by omega) (Aag ha6 ha17) ht (by omega) (by omega) (by omega)
  have q23:=of_decide_eq_false b23
  refine Al ?_
  apply k14
  refine Ag rfl rfl ?_
  refine Aa rfl (Br (p:=(i:Int)) (q:=1) h10_31 rfl (z:=(((i + 1):Nat):Int)) (Bo (by first | rfl | omega | (push_cast; rfl)) (by omega) (by omega))) ?_
  refine l_M (iV ((((i + 1):Nat):Int))) rfl rfl ?_
  apply Ac
  refine ⟨_,?_,((i + 1)),rfl,rfl,rfl,rfl,h10_0,h10_1,h10_2,h10_3,h10_29,h10_30,rfl,(by omega),(Ef p10_1 (by intro y hy; rw [ha17] at hy; obtain rfl:x18 = y:=(by have:=Option.some.inj hy; omega); omega)),trivial⟩
  omega
 have q13:=of_decide_eq_false b13
 refine Bx ?_
 apply k3
 refine Ai fun K29 k29=>?_
 refine w_q rfl rfl fun K30 k30=>?_
 refine Aa rfl (Ah (v:=(.pointer (some ⟨rx,0,none⟩))) h10_0) ?_
 refine Aa rfl (Ck rfl) ?_
 refine Aa rfl (Cb (off':=0) Tryd.underlying198 rfl rfl ⟨_,Ab Tryd.typeInfo133,rfl⟩ (by decide) rfl rfl) ?_
 refine Aa rfl (Cb (off':=0) Tryd.underlying133 rfl rfl ⟨_,Ab Tryd.typeInfo26,rfl⟩ (by decide) rfl rfl) ?_
 refine Aa rfl (Cb (off':=3) Tryd.underlying26 rfl rfl ⟨_,Ab Tryd.typeInfo24,rfl⟩ (by decide) rfl rfl) ?_
 refine Ae rfl (Dt (i:=1) (v:=vs) ⟨_,Tryd.underlying24,rfl⟩ rfl rfl rfl ?_)
 refine Aa rfl (Ah (v:=(iV ((sale:Int)))) h10_1) ?_
 refine Ak rfl (Ci sale Tryd.underlying24 Su rfl rs (q:=(sale:Int)) rfl rfl ha6) fun v31 r31=>?_
 refine Ak rfl (Ay Sale.f_sellers Tryd.underlying59 rfl rfl Vg (by decide) rfl r31) fun v32 r32=>?_
 refine Ak rfl (Ax Vg rfl r32) fun v33 r33=>?_
 have g34:=Val.len r33
 refine Aa rfl (Ce (el:=3) Tryd.underlying30 rfl r33) ?_
 refine l_M (iV (0)) rfl rfl ?_
 apply Ac
 apply k30
 refine Ao ?_
 refine Cc (fun mm ee dd ρ' σ'=>∃ (k:Nat) (trk:List Bool) (rx35_3:List Bool),(a6.sellers.length - k) = mm∧[] = dd∧ρ = ρ'∧((rt,Res.obj (Obj.cells (rx35_3.map Value.bool).toArray 201 (0,0))) :: ((rx,Res.obj (Obj.cells ([vh,vk,vf,vs,g0,g1,g2,g3,g4] ++ xs.map (Value.int .i64)).toArray 198 (0,0))) :: σ)) = σ'∧ee 0 = (.pointer (some ⟨rx,0,none⟩))∧ee 1 = (iV ((sale:Int)))∧ee 2 = (iV (g))∧ee 81 = v33∧ee 82 = (iV (((a6.sellers.length:Nat):Int)))∧ee 3 = (.pointer (some ⟨rt,0,none⟩))∧ee 83 = (iV ((k:Int)))∧(k ≤ a6.sellers.length)∧(∀ s,trB (tr.set sale true) s = true→trB trk s = true)∧(Clo (Ds m) xs (trB (tr.set sale true)) (trB trk))∧(∀ j,j < k→TriZ xs trk a6.sellers j)∧rx35_3 = trk∧rx35_3.length = 8∧True) (m:=_) ⟨0,(tr.set sale true),(tr.set sale true),rfl,rfl,rfl,rfl,h10_0,h10_1,h10_2,rfl,rfl,h10_3,rfl,(Nat.zero_le _),(fun _ h=>h),Clo.refl,(fun j h=>absurd h (Nat.not_lt_zero _)),(rfl),(List.length_set.trans htl),trivial⟩ ?_
 rintro m35 e35 _ _ _ ⟨k,trk,rx35_3,rfl,rfl,rfl,rfl,h35_0,h35_1,h35_2,h35_81,h35_82,h35_3,h35_83,p35_0,p35_1,p35_2,p35_3,RX35_3,RL35_3,_⟩
 subst RX35_3
 refine w_q rfl rfl fun K36 k36=>?_
 refine Aa rfl (Da (p:=(k:Int)) (q:=((a6.sellers.length:Nat):Int)) h35_83 h35_82) ?_
 apply Ac
 apply k36
 refine Ai fun K37 k37=>?_
 refine As (t:=decide ((k:Int) < ((a6.sellers.length:Nat):Int))) rfl (fun b38=>?_) (fun b38=>?_)
 ·have q38:=of_decide_eq_true b38
  refine Al ?_
  apply k37
  refine Ai fun K39 k39=>?_
  refine Ao ?_
  refine w_q rfl rfl fun K40 k40=>?_
  obtain ⟨a42,ha42⟩:=Ed (xs:=a6.sellers) (i:=k) (by omega)
  have gt_a42:=gs_a6.2.2.1 _ _ ha42
  obtain ⟨x43,hx43⟩:∃ x:Nat,a42 = (x:Int):=⟨a42.toNat,by omega⟩
  subst hx43
  refine Ak rfl (Ci k Tryd.underlying30 ty3 h35_81 r33 (q:=(k:Int)) h35_83 rfl ha42) fun v41 r41=>?_
  have ⟨g44a,g44b⟩:=At.rng r41
  refine Aa rfl (Bc ty3 rfl r41) ?_
  refine l_A (iV ((x43:Int))) rfl rfl ?_
  apply Ac
  apply k40
  refine w_q rfl rfl fun K45 k45=>?_
  refine Aa rfl (Ah (v:=(.pointer (some ⟨rx,0,none⟩))) h35_0) ?_
  refine Aa rfl (Ck rfl) ?_
  refine Aa rfl (Cb (off':=0) Tryd.underlying198 rfl rfl ⟨_,Ab Tryd.typeInfo133,rfl⟩ (by decide) rfl rfl) ?_
  refine Aa rfl (Cb (off':=0) Tryd.underlying133 rfl rfl ⟨_,Ab Tryd.typeInfo26,rfl⟩ (by decide) rfl rfl) ?_
  refine Aa rfl (Cb (off':=3) Tryd.underlying26 rfl rfl ⟨_,Ab Tryd.typeInfo24,rfl⟩ (by decide) rfl rfl) ?_
  refine Ae rfl (Dt (i:=1) (v:=vs) ⟨_,Tryd.underlying24,rfl⟩ rfl rfl rfl ?_)
  have g46:=Val.len rs
  refine Aa rfl (Ce (el:=59) Tryd.underlying24 rfl rs) ?_
  refine l_M (iV (0)) rfl rfl ?_
  apply Ac
  apply k45
  refine Ao ?_
  refine Cc (fun mm ee dd ρ' σ'=>∃ (o:Nat) (trk:List Bool) (rx47_3:List Bool),(m.sales.length - o) = mm∧[] = dd∧ρ = ρ'∧((rt,Res.obj (Obj.cells (rx47_3.map Value.bool).toArray 201 (0,0))) :: ((rx,Res.obj (Obj.cells ([vh,vk,vf,vs,g0,g1,g2,g3,g4] ++ xs.map (Value.int .i64)).toArray 198 (0,0))) :: σ)) = σ'∧ee 0 = (.pointer (some ⟨rx,0,none⟩))∧ee 1 = (iV ((sale:Int)))∧ee 2 = (iV (g))∧ee 13 = (iV ((x43:Int)))∧ee 81 = v33∧ee 82 = (iV (((a6.sellers.length:Nat):Int)))∧ee 83 = (iV ((k:Int)))∧ee 93 = (iV (((m.sales.length:Nat):Int)))∧ee 3 = (.pointer (some ⟨rt,0,none⟩))∧ee 94 = (iV ((o:Int)))∧(o ≤ m.sales.length)∧(∀ s,trB (tr.set sale true) s = true→trB trk s = true)∧(Clo (Ds m) xs (trB (tr.set sale true)) (trB trk))∧(∀ j,j < k→TriZ xs trk a6.sellers j)∧(∀ j,j < o→TriO xs trk x43 j)∧rx47_3 = trk∧rx47_3.length = 8∧True) (m:=_) ⟨0,rx35_3,rx35_3,rfl,rfl,rfl,rfl,h35_0,h35_1,h35_2,rfl,h35_81,h35_82,h35_83,rfl,h35_3,rfl,(Nat.zero_le _),p35_1,p35_2,p35_3,(fun j h=>absurd h (Nat.not_lt_zero _)),(rfl),RL35_3,trivial⟩ ?_
  rintro m47 e47 _ _ _ ⟨o,trk,rx47_3,rfl,rfl,rfl,rfl,h47_0,h47_1,h47_2,h47_13,h47_81,h47_82,h47_83,h47_93,h47_3,h47_94,p47_0,p47_1,p47_2,p47_3,p47_4,RX47_3,RL47_3,_⟩
  subst RX47_3
  refine w_q rfl rfl fun K48 k48=>?_
  refine Aa rfl (Da (p:=(o:Int)) (q:=((m.sales.length:Nat):Int)) h47_94 h47_93) ?_
  apply Ac
  apply k48
  refine Ai fun K49 k49=>?_
  refine As (t:=decide ((o:Int) < ((m.sales.length:Nat):Int))) rfl (fun b50=>?_) (fun b50=>?_)
  ·have q50:=of_decide_eq_true b50
   refine Al ?_
   apply k49
   refine Ai fun K51 k51=>?_
   refine Ao ?_
   refine w_q rfl rfl fun K52 k52=>?_
   refine Aa rfl (Ah (v:=(iV ((o:Int)))) h47_94) ?_
   refine l_A (iV ((o:Int))) rfl rfl ?_
   apply Ac
   apply k52
   refine Ai fun K53 k53=>?_
   refine w_q rfl rfl fun K54 k54=>?_
   refine Aa rfl (Ah (v:=(.pointer (some ⟨rt,0,none⟩))) h47_3) ?_
   refine l_M (iV ((o:Int))) rfl rfl ?_
   refine Aa rfl (Ck rfl) ?_
   refine Aa rfl (Cq (k':=1) o Tryd.underlying201 ⟨_,Ab Tryd.typeInfo4,rfl⟩ rfl (q:=(o:Int)) rfl rfl (by omega) (off':=o) (by omega)) ?_
   refine Ae rfl (Act (j:=0) (f:=Value.bool) (i:=o) (bv:=trB rx47_3 o) ⟨_,Tryd.underlying4,rfl⟩ rfl rfl (Amh (by rw [RL47_3]; omega)) ?_)
   refine l_M (.bool (trB rx47_3 o)) rfl rfl ?_
   refine Cn (trB rx47_3 o) (fun b56=>?_) (fun b56=>?_)
   ·refine Ap (Bl rfl rfl rfl b56) ?_
    refine Ap (Bl rfl rfl rfl b56) ?_
    refine Ap (Bl rfl rfl rfl b56) ?_
    refine Ap (Bl rfl rfl rfl b56) ?_
    refine Ap (Bl rfl rfl rfl b56) ?_
    refine Ap (Bl rfl rfl rfl b56) ?_
    refine Ap (Bl rfl rfl rfl b56) ?_
    refine Ap (Bl rfl rfl rfl b56) ?_
    refine Ap (Bl rfl rfl rfl b56) ?_
    refine Aa rfl (Bt rfl b56 (v:=(.bool (true))) rfl) ?_
    apply Ac
    apply k54
    refine Co rfl rfl ?_
    refine Bx ?_
    apply k51
    refine Ag rfl rfl ?_
    refine Aa rfl (Br (p:=(o:Int)) (q:=1) h47_94 rfl (z:=(((o + 1):Nat):Int)) (Bo (by first | rfl | omega | (push_cast; rfl)) (by omega) (by omega))) ?_
    refine l_M (iV ((((o + 1):Nat):Int))) rfl rfl ?_
    apply Ac
    refine ⟨_,?_,((o + 1)),(rx47_3),rx47_3,rfl,rfl,rfl,rfl,h47_0,h47_1,h47_2,h47_13,h47_81,h47_82,h47_83,h47_93,h47_3,rfl,(by omega),p47_1,p47_2,p47_3,(Ef p47_4 (fun _=>b56)),(rfl),RL47_3,trivial⟩
    omega
   refine Aa (Ar rfl rfl rfl b56) (Ah (v:=(.pointer (some ⟨rx,0,none⟩))) h47_0) ?_
   refine l_M (iV ((o:Int))) (Ar rfl rfl rfl b56) rfl ?_
   refine Aa (Ar rfl rfl rfl b56) (Ah (v:=(iV ((x43:Int)))) h47_13) ?_
   refine Aa (Ar rfl rfl rfl b56) (Ck rfl) ?_
   refine Aa (Ar rfl rfl rfl b56) (Cb (off':=9) Tryd.underlying198 rfl rfl ⟨_,Ab Tryd.typeInfo196,rfl⟩ (by decide) rfl rfl) ?_
   refine Aa (Ar rfl rfl rfl b56) (Cq (k':=5) o Tryd.underlying196 ⟨_,Ab Tryd.typeInfo130,rfl⟩ rfl (q:=(o:Int)) rfl rfl (by omega) (off':=(9 + o * 5)) rfl) ?_
   refine Aa (Ar rfl rfl rfl b56) (Cq (k':=1) x43 Tryd.underlying130 ⟨_,Ab Tryd.typeInfo3,rfl⟩ rfl (q:=(x43:Int)) rfl rfl (by omega) (off':=(9 + (o * 5 + x43))) (by omega)) ?_
   have hr57:0 ≤ xg xs ((o * 5 + x43))∧xg xs ((o * 5 + x43)) ≤ 8000000:=Lt hF hcap (by omega)
   refine Ae (Ar rfl rfl rfl b56) (Mt (j:=1) (f:=(Value.int .i64)) (pc:=[vh,vk,vf,vs,g0,g1,g2,g3,g4]) (i:=(o * 5 + x43)) (bv:=xg xs ((o * 5 + x43))) ⟨_,Tryd.underlying3,rfl⟩ rfl rfl rfl (Pj (by rw [hF.len]; omega)) ?_)
   refine Aa (Ar rfl rfl rfl b56) (Ek (p:=xg xs ((o * 5 + x43))) (q:=0) rfl rfl) ?_
   refine Aa rfl (Bm rfl b56 (v:=(.bool (xg xs ((o * 5 + x43)) == 0))) rfl) ?_
   apply Ac
   apply k54
   refine As (t:=xg xs ((o * 5 + x43)) == 0) rfl (fun b58=>?_) (fun b58=>?_)
   ·have q58:=Jo b58
    refine Bx ?_
    apply k51
    refine Ag rfl rfl ?_
    refine Aa rfl (Br (p:=(o:Int)) (q:=1) h47_94 rfl (z:=(((o + 1):Nat):Int)) (Bo (by first | rfl | omega | (push_cast; rfl)) (by omega) (by omega))) ?_
    refine l_M (iV ((((o + 1):Nat):Int))) rfl rfl ?_
    apply Ac
    refine ⟨_,?_,((o + 1)),(rx47_3),rx47_3,rfl,rfl,rfl,rfl,h47_0,h47_1,h47_2,h47_13,h47_81,h47_82,h47_83,h47_93,h47_3,rfl,(by omega),p47_1,p47_2,p47_3,(Ef p47_4 (fun h=>absurd q58 h)),(rfl),RL47_3,trivial⟩
    omega
   have q58:=La b58
   refine Al ?_
   apply k53
   refine w_q rfl rfl fun K59 k59=>?_
   refine Aa rfl (Ah (v:=(.pointer (some ⟨rx,0,none⟩))) h47_0) ?_
   refine l_M (iV ((o:Int))) rfl rfl ?_
   refine Aa rfl (Ah (v:=(iV (g))) h47_2) ?_
   refine Aa rfl (Ah (v:=(.pointer (some ⟨rx,0,none⟩))) h47_0) ?_
   refine l_M (iV ((o:Int))) rfl rfl ?_
   refine Aa rfl (Ah (v:=(iV ((x43:Int)))) h47_13) ?_
   refine Aa rfl (Ck rfl) ?_
   refine Aa rfl (Cb (off':=9) Tryd.underlying198 rfl rfl ⟨_,Ab Tryd.typeInfo196,rfl⟩ (by decide) rfl rfl) ?_
   refine Aa rfl (Cq (k':=5) o Tryd.underlying196 ⟨_,Ab Tryd.typeInfo130,rfl⟩ rfl (q:=(o:Int)) rfl rfl (by omega) (off':=(9 + o * 5)) rfl) ?_
   refine Aa rfl (Cq (k':=1) x43 Tryd.underlying130 ⟨_,Ab Tryd.typeInfo3,rfl⟩ rfl (q:=(x43:Int)) rfl rfl (by omega) (off':=(9 + (o * 5 + x43))) (by omega)) ?_
   have hr60:0 ≤ xg xs ((o * 5 + x43))∧xg xs ((o * 5 + x43)) ≤ 8000000:=Lt hF hcap (by omega)
   refine Ae rfl (Mt (j:=1) (f:=(Value.int .i64)) (pc:=[vh,vk,vf,vs,g0,g1,g2,g3,g4]) (i:=(o * 5 + x43)) (bv:=xg xs ((o * 5 + x43))) ⟨_,Tryd.underlying3,rfl⟩ rfl rfl rfl (Pj (by rw [hF.len]; omega)) ?_)
   refine Aa rfl (Aju (p:=g) (q:=xg xs ((o * 5 + x43))) rfl rfl) ?_
   refine Aa rfl (Ah (v:=(.pointer (some ⟨rt,0,none⟩))) h47_3) ?_
   refine Bj (σ':=((rx,Res.obj (Obj.cells ([vh,vk,vf,vs,g0,g1,g2,g3,g4] ++ xs.map (Value.int .i64)).toArray 198 (0,0))) :: ((rt,Res.obj (Obj.cells (rx47_3.map Value.bool).toArray 201 (0,0))) :: σ))) (Arx (List.perm_append_comm_assoc ([(rt,Res.obj (Obj.cells (rx47_3.map Value.bool).toArray 201 (0,0)))]) ([(rx,Res.obj (Obj.cells ([vh,vk,vf,vs,g0,g1,g2,g3,g4] ++ xs.map (Value.int .i64)).toArray 198 (0,0)))]) _)) ?_
   refine Bj (σ':=((rt,Res.obj (Obj.cells (rx47_3.map Value.bool).toArray 201 (0,0))) :: ((rx,Res.obj (Obj.cells ([vh,vk,vf,vs,g0,g1,g2,g3,g4] ++ xs.map (Value.int .i64)).toArray 198 (0,0))) :: σ))) (Arx (List.perm_append_comm_assoc ([(rx,Res.obj (Obj.cells ([vh,vk,vf,vs,g0,g1,g2,g3,g4] ++ xs.map (Value.int .i64)).toArray 198 (0,0)))]) ([(rt,Res.obj (Obj.cells (rx47_3.map Value.bool).toArray 201 (0,0)))]) _)) ?_
   refine Ae rfl (Cm (vs:=[(.pointer (some ⟨rx,0,none⟩)),(iV ((o:Int))),(iV ((min g (xg xs ((o * 5 + x43)))))),(.pointer (some ⟨rt,0,none⟩))]) (ih _ (by have:=Ahq (sale:=sale) (tr:=tr) (tr':=rx47_3) (fun s h=>p47_1 s (by rw [Ip (by omega)]; split; rfl; exact h)) (by omega) ht (p47_1 sale (by rw [Ip (by omega),if_pos rfl])); omega) (sale:=o) (g:=(min g (xg xs ((o * 5 + x43))))) (xs:=xs) (tr:=rx47_3) hF (by omega) (by omega) (by omega) RL47_3 b56 rfl) Tryd.func128 rfl rfl ⟨rfl,rfl,rfl,rfl,trivial⟩ fun w61 ρ61 σ61 hc61=>?_)
   obtain ⟨hr61,n61,ys61,us61,hw61,hs61,MP61⟩:=hc61
   replace hr61:=hr61.symm; subst hr61 hs61 hw61
   have hn61:=MP61.n0
   have hl61:=MP61.le
   have ho61:o ≠ sale:=fun e=>by subst e; have:=p47_1 o (by rw [Ip (by omega),if_pos rfl]); rw [this] at b56; cases b56
   refine l_A (iV (n61)) rfl rfl ?_
   apply Ac
   apply k59
   refine w_q rfl rfl fun K62 k62=>?_
   refine l_M (iV (n61)) rfl rfl ?_
   refine Aa rfl (Gk (p:=n61) (q:=0) rfl rfl) ?_
   apply Ac
   apply k62
   refine As (t:=decide (n61 > 0)) rfl (fun b63=>?_) (fun b63=>?_)
   ·have q63:=of_decide_eq_true b63
    refine Ai fun K64 k64=>?_
    refine Dc [0,1,2,3,4,5,6,7,8,9,10,11,12,13,14] (by kernel_rfl) rfl rfl ?_
    refine Be (i:=0) Anc rfl (by kernel_rfl) rfl Ary rfl (Ah (v:=(.pointer (some ⟨rx,0,none⟩))) h47_0) ?_
    refine Be (i:=1) Aop rfl (by kernel_rfl) rfl Ary rfl (Ah (v:=(iV ((o:Int)))) rfl) ?_
    refine Be (i:=2) And rfl (by kernel_rfl) rfl Ary rfl (Ah (v:=(iV ((x43:Int)))) h47_13) ?_
    refine Be (i:=3) Aot rfl (by kernel_rfl) rfl Ary rfl (Ck rfl) ?_
    refine Be (i:=4) Apg rfl (by kernel_rfl) rfl Ary rfl (Cb (off':=9) Tryd.underlying198 rfl rfl ⟨_,Ab Tryd.typeInfo196,rfl⟩ (by decide) rfl rfl) ?_
    refine Be (i:=5) Anx rfl (by kernel_rfl) rfl Ary rfl (Cq (k':=5) o Tryd.underlying196 ⟨_,Ab Tryd.typeInfo130,rfl⟩ rfl (q:=(o:Int)) rfl rfl (by omega) (off':=(9 + o * 5)) rfl) ?_
    refine Be (i:=6) Amz rfl (by kernel_rfl) rfl Ary rfl (Cq (k':=1) x43 Tryd.underlying130 ⟨_,Ab Tryd.typeInfo3,rfl⟩ rfl (q:=(x43:Int)) rfl rfl (by omega) (off':=(9 + (o * 5 + x43))) (by omega)) ?_
    refine Be (i:=8) Ang rfl (by kernel_rfl) rfl Ary rfl (Ah (v:=(iV (n61))) rfl) ?_
    refine Be (i:=10) Ape rfl (by kernel_rfl) rfl Ary rfl (Ck rfl) ?_
    refine Be (i:=11) Anv rfl (by kernel_rfl) rfl Ary rfl (Cb (off':=9) Tryd.underlying198 rfl rfl ⟨_,Ab Tryd.typeInfo196,rfl⟩ (by decide) rfl rfl) ?_
    refine Be (i:=12) Aoh rfl (by kernel_rfl) rfl Ary rfl (Cq (k':=5) o Tryd.underlying196 ⟨_,Ab Tryd.typeInfo130,rfl⟩ rfl (q:=(o:Int)) rfl rfl (by omega) (off':=(9 + o * 5)) rfl) ?_
    have hr65:0 ≤ xg ys61 ((o * 5 + x43))∧xg ys61 ((o * 5 + x43)) ≤ 8000000:=Lt MP61.ok hcap (by omega)
    refine Dj (i:=7) Ane rfl (by kernel_rfl) rfl rfl (Mt (j:=1) (f:=(Value.int .i64)) (pc:=[vh,vk,vf,vs,g0,g1,g2,g3,g4]) (i:=(o * 5 + x43)) (bv:=xg ys61 ((o * 5 + x43))) ⟨_,Tryd.underlying3,rfl⟩ rfl rfl rfl (Pj (by rw [MP61.ok.len]; omega)) ⟨Ary,?_⟩)
    refine Bg (i:=9) Aod rfl (by kernel_rfl) rfl Ary rfl (Oq (p:=xg ys61 ((o * 5 + x43))) (q:=n61) rfl rfl (z:=(xg ys61 ((o * 5 + x43)) - n61)) (Bo (by rfl) (by omega) (by omega))) ?_
    refine Bg (i:=13) Aoc rfl (by kernel_rfl) rfl Ary rfl (Cq (k':=1) x43 Tryd.underlying130 ⟨_,Ab Tryd.typeInfo3,rfl⟩ rfl (q:=(x43:Int)) rfl rfl (by omega) (off':=(9 + (o * 5 + x43))) (by omega)) ?_
    refine Fi (i:=14) Aoe rfl (by kernel_rfl) rfl rfl (Nc (j:=1) (f:=(Value.int .i64)) (pc:=[vh,vk,vf,vs,g0,g1,g2,g3,g4]) (i:=(o * 5 + x43)) (bv:=(xg ys61 ((o * 5 + x43)) - n61)) ⟨_,Ab Tryd.typeInfo3,rfl⟩ rfl rfl rfl rfl rfl (by rw [MP61.ok.len]; omega) ⟨Ary,?_⟩)
    refine Ec rfl ?_
    apply k64
    refine Ai fun K66 k66=>?_
    refine Dc [0,1,2,3,4,5,6,7,8,9,10,11,12,13,14] (by kernel_rfl) rfl rfl ?_
    refine Be (i:=0) Anc rfl (by kernel_rfl) rfl Ary rfl (Ah (v:=(.pointer (some ⟨rx,0,none⟩))) h47_0) ?_
    refine Be (i:=1) Aop rfl (by kernel_rfl) rfl Ary rfl (Ah (v:=(iV ((sale:Int)))) h47_1) ?_
    refine Be (i:=2) And rfl (by kernel_rfl) rfl Ary rfl (Ah (v:=(iV ((x43:Int)))) h47_13) ?_
    refine Be (i:=3) Aot rfl (by kernel_rfl) rfl Ary rfl (Ck rfl) ?_
    refine Be (i:=4) Apg rfl (by kernel_rfl) rfl Ary rfl (Cb (off':=9) Tryd.underlying198 rfl rfl ⟨_,Ab Tryd.typeInfo196,rfl⟩ (by decide) rfl rfl) ?_
    refine Be (i:=5) Anx rfl (by kernel_rfl) rfl Ary rfl (Cq (k':=5) sale Tryd.underlying196 ⟨_,Ab Tryd.typeInfo130,rfl⟩ rfl (q:=(sale:Int)) rfl rfl (by omega) (off':=(9 + sale * 5)) rfl) ?_
    refine Be (i:=6) Amz rfl (by kernel_rfl) rfl Ary rfl (Cq (k':=1) x43 Tryd.underlying130 ⟨_,Ab Tryd.typeInfo3,rfl⟩ rfl (q:=(x43:Int)) rfl rfl (by omega) (off':=(9 + (sale * 5 + x43))) (by omega)) ?_
    refine Be (i:=8) Ang rfl (by kernel_rfl) rfl Ary rfl (Ah (v:=(iV (n61))) rfl) ?_
    refine Be (i:=10) Ape rfl (by kernel_rfl) rfl Ary rfl (Ck rfl) ?_
    refine Be (i:=11) Anv rfl (by kernel_rfl) rfl Ary rfl (Cb (off':=9) Tryd.underlying198 rfl rfl ⟨_,Ab Tryd.typeInfo196,rfl⟩ (by decide) rfl rfl) ?_
    refine Be (i:=12) Aoh rfl (by kernel_rfl) rfl Ary rfl (Cq (k':=5) sale Tryd.underlying196 ⟨_,Ab Tryd.typeInfo130,rfl⟩ rfl (q:=(sale:Int)) rfl rfl (by omega) (off':=(9 + sale * 5)) rfl) ?_
    have hr67:0 ≤ xg ((ys61.set ((o * 5 + x43)) ((xg ys61 ((o * 5 + x43)) - n61)))) ((sale * 5 + x43))∧xg ((ys61.set ((o * 5 + x43)) ((xg ys61 ((o * 5 + x43)) - n61)))) ((sale * 5 + x43)) ≤ 8000000:=Wq MP61.ok hcap (by omega) (by omega)
    refine Dj (i:=7) Ane rfl (by kernel_rfl) rfl rfl (Mt (j:=1) (f:=(Value.int .i64)) (pc:=[vh,vk,vf,vs,g0,g1,g2,g3,g4]) (i:=(sale * 5 + x43)) (bv:=xg ((ys61.set ((o * 5 + x43)) ((xg ys61 ((o * 5 + x43)) - n61)))) ((sale * 5 + x43))) ⟨_,Tryd.underlying3,rfl⟩ rfl rfl rfl (Pj (by rw [(List.length_set.trans MP61.ok.len)]; omega)) ⟨Ary,?_⟩)
    refine Bg (i:=9) Aod rfl (by kernel_rfl) rfl Ary rfl (Br (p:=xg ((ys61.set ((o * 5 + x43)) ((xg ys61 ((o * 5 + x43)) - n61)))) ((sale * 5 + x43))) (q:=n61) rfl rfl (z:=(xg ((ys61.set ((o * 5 + x43)) ((xg ys61 ((o * 5 + x43)) - n61)))) ((sale * 5 + x43)) + n61)) (Bo (by rfl) (by omega) (by omega))) ?_
    refine Bg (i:=13) Aoc rfl (by kernel_rfl) rfl Ary rfl (Cq (k':=1) x43 Tryd.underlying130 ⟨_,Ab Tryd.typeInfo3,rfl⟩ rfl (q:=(x43:Int)) rfl rfl (by omega) (off':=(9 + (sale * 5 + x43))) (by omega)) ?_
    refine Fi (i:=14) Aoe rfl (by kernel_rfl) rfl rfl (Nc (j:=1) (f:=(Value.int .i64)) (pc:=[vh,vk,vf,vs,g0,g1,g2,g3,g4]) (i:=(sale * 5 + x43)) (bv:=(xg ((ys61.set ((o * 5 + x43)) ((xg ys61 ((o * 5 + x43)) - n61)))) ((sale * 5 + x43)) + n61)) ⟨_,Ab Tryd.typeInfo3,rfl⟩ rfl rfl rfl rfl rfl (by rw [(List.length_set.trans MP61.ok.len)]; omega) ⟨Ary,?_⟩)
    refine Ec rfl ?_
    apply k66
    refine w_q rfl rfl fun K68 k68=>?_
    refine l_M (iV (n61)) rfl rfl ?_
    refine l_A (iV (n61)) rfl rfl ?_
    apply Ac
    apply k68
    refine Aq ?_
    refine hret _ _ _ ?_
    refine ⟨rfl,n61,_,_,Eq.trans (b:=(iV (n61))) rfl rfl,rfl,?_⟩
    exact Aba htl (by omega) (by omega) (by omega) (Aag ha6 ha42) ht p47_1 b56 q58 (g:=min g (xg xs (o * 5 + x43))) (by omega) (by omega) MP61 (by omega)
   obtain ⟨hz61,hy61,hc61⟩:=MP61.zero (of_decide_eq_false b63)
   replace hy61:=hy61.symm; subst hy61
   have q63:=of_decide_eq_false b63
   refine Al ?_
   apply k51
   refine Ag rfl rfl ?_
   refine Aa rfl (Br (p:=(o:Int)) (q:=1) h47_94 rfl (z:=(((o + 1):Nat):Int)) (Bo (by first | rfl | omega | (push_cast; rfl)) (by omega) (by omega))) ?_
   refine l_M (iV ((((o + 1):Nat):Int))) rfl rfl ?_
   apply Ac
   refine ⟨_,?_,((o + 1)),(us61),us61,rfl,rfl,rfl,rfl,h47_0,h47_1,h47_2,h47_13,h47_81,h47_82,h47_83,h47_93,h47_3,rfl,(by omega),(fun s h=>MP61.mono s (p47_1 s h)),(p47_2.trans hc61 MP61.mono),(TriZ.mono MP61.mono p47_3),(Ef (TriO.mono MP61.mono p47_4) (fun _=>MP61.own)),(rfl),MP61.len,trivial⟩
   omega
  have q50:=of_decide_eq_false b50
  refine Bx ?_
  apply k39
  refine Ag rfl rfl ?_
  refine Aa rfl (Br (p:=(k:Int)) (q:=1) h47_83 rfl (z:=(((k + 1):Nat):Int)) (Bo (by first | rfl | omega | (push_cast; rfl)) (by omega) (by omega))) ?_
  refine l_M (iV ((((k + 1):Nat):Int))) rfl rfl ?_
  apply Ac
  refine ⟨_,?_,((k + 1)),(rx47_3),rx47_3,rfl,rfl,rfl,rfl,h47_0,h47_1,h47_2,h47_81,h47_82,h47_3,rfl,(by omega),p47_1,p47_2,(Ef p47_3 (TriO.all hF (by omega) (by omega) ha42 p47_4)),(rfl),RL47_3,trivial⟩
  omega
 have q38:=of_decide_eq_false b38
 refine Bx ?_
 apply k29
 refine w_q rfl rfl fun K69 k69=>?_
 refine l_A (iV (0)) rfl rfl ?_
 apply Ac
 apply k69
 refine Aq ?_
 refine hret _ _ _ ?_
 refine ⟨rfl,0,_,_,Eq.trans (b:=(iV (0))) rfl rfl,rfl,?_⟩
 exact Aef hF htl RL35_3 (by omega) p35_1 p35_2 (Ajf ha6 (by omega) p10_1) (Amk ha6 (by omega) p35_3)
end Go.Proofs.YtoefdnbaklajeaaDoor

namespace Go.Proofs.YtoefdnbaklajeaaDoor
open Go
theorem Afx {P:Program} {ρ:Ro} {e:Env} {ty t el:TypeId} {len k':Nat} {z:Value} {zc:List Value} (hT:P.underlying t = some (.array len el)) (hz:Gc P t z) (hzc:z.cells = zc.toArray) (hE:∃ i,P.info? el = some i∧i.size = k'):Yld P ρ e (.build t #[]) ty (.agg zc.toArray) :=
  Mf (s:=Instr.build t ((#[]:Array (Nat × Operand)).map fun (p:Nat × Operand)=>(p.1,Af e p.2))) (fun _ _ _ _=>rfl) fun ρ' σ _=>by
    unfold Instr.build
    show wpS P ρ' ((zeroValue t).bind _) σ _
    rw [Ad]
    refine Jz hz ?_
    show wpS P ρ' ((underlying t).bind _) σ _
    rw [Ad]
    refine Az hT ?_
    dsimp only
    show wpS P ρ' ((sizeOf el).bind _) σ _
    rw [Ad]
    refine Dw hE ?_
    have e1:((#[]:Array (Nat × Operand)).map fun (p:Nat × Operand)=>(p.1,Af e p.2)).toList = []:=by simp
    simp only [e1,hzc,Instr.fill]
    exact ⟨rfl,rfl⟩
/-- What each house may sell,when the houses before h have been looked at. -/
def Qd (m:Market) (set h:Nat):List Int:=(List.range 5).map fun j=>if j < h∧Cu set j = true then 8000000 else Eo m (j:Int)
def Oj (m:Market) (set h:Nat):List Int:=List.replicate 40 0 ++ Qd m set h
theorem Oc {m:Market} {set h:Nat}:(Qd m set h).length = 5:=by simp [Qd]
theorem Ahb {m:Market} {set h:Nat}:(Oj m set h).length = 45:=by simp [Oj,Oc]
theorem Aox {m:Market} {set:Nat}:List.replicate 40 0 ++ En m = Oj m set 0:=by simp [Oj,Qd,En]
theorem Qu {m:Market} {set h k:Nat} (hk:k < 5):(Qd m set h)[k]? = some (if k < h∧Cu set k = true then 8000000 else Eo m (k:Int)):=by
  unfold Qd; rw [List.getElem?_map,List.getElem?_range hk]; rfl
theorem Aos {m:Market} {set h:Nat} (hh:h < 5) (hb:Cu set h = true):(Oj m set h).set (40 + h) 8000000 = Oj m set (h + 1):=by
  unfold Oj
  rw [List.set_append_right _ _ (by simp),show 40 + h - (List.replicate 40 (0:Int)).length = h by simp]
  congr 1
  apply List.ext_getElem?
  intro k
  rw [List.getElem?_set,Oc]
  by_cases hk:k < 5
  · rw [Qu hk,Qu hk]
    by_cases e:h = k
    · subst e; rw [if_pos rfl,if_pos hk,if_pos ⟨by omega,hb⟩]
    · rw [if_neg e]
      congr 1
      by_cases h2:k < h
      · simp [h2,show k < h + 1 by omega]
      · simp [h2,show ¬ k < h + 1 by omega]
  · rw [List.getElem?_eq_none (l:=Qd m set (h + 1)) (by rw [Oc]; omega),List.getElem?_eq_none (l:=Qd m set h) (by rw [Oc]; omega)]
    split
    · omega
    · rfl
theorem Aoy {m:Market} {set h:Nat} (hb:Cu set h = false):Oj m set h = Oj m set (h + 1):=by
  unfold Oj Qd
  congr 1
  apply List.map_congr_left
  intro k _
  by_cases e:k = h
  · subst e; simp [hb]
  · by_cases h2:k < h
    · simp [h2,show k < h + 1 by omega]
    · simp [h2,show ¬ k < h + 1 by omega]
theorem Amb {m:Market} (ok:MarketOk m) (set:Nat):∀ h,h < 5→Mp m set h ≤ 8000000:=fun h _=>by
  have:=Tt ok (h:Int)
  unfold Mp; split <;> omega
structure EnQ (m:Market) (set i:Nat) (gr:Int) (xs:List Int):Prop where
  ok:FlowOk (Ds m) (Mp m set) xs
  done:∀ s,s < i→s < 8→Fv xs s = Em m s
  cur:Fv xs i + gr = Em m i
  rest:∀ s,i < s→s < 8→Fv xs s = 0
structure EnO (m:Market) (set i:Nat) (xs:List Int):Prop where
  ok:FlowOk (Ds m) (Mp m set) xs
  done:∀ s,s < i→s < 8→Fv xs s = Em m s
  rest:∀ s,i ≤ s→s < 8→Fv xs s = 0
section
variable {m:Market} {set i:Nat} {gr n:Int} {xs xs':List Int} {tr':List Bool}
theorem Aiq (ok:MarketOk m) (s:Nat):0 ≤ Em m s∧Em m s ≤ 1000000:=by
  unfold Em
  cases hx:m.sales[s]? with
  | none=>simp
  | some x=>exact (ok.sale s x hx).1
theorem Ake (ok:MarketOk m):EnO m set 0 (Oj m set 5):=by
  have hp:∀ s h,s < 8→h < 5→pt (Oj m set 5) s h = 0:=fun s h hs hh=>by
    unfold pt xg Oj
    rw [List.getD_eq_getElem?_getD,List.getElem?_append_left (by simp; omega),List.getElem?_replicate,if_pos (by omega)]; rfl
  have hl:∀ h,h < 5→lf (Oj m set 5) h = Mp m set h:=fun h hh=>by
    unfold lf xg Oj
    rw [List.getD_eq_getElem?_getD,List.getElem?_append_right (by simp),show 40 + h - (List.replicate 40 (0:Int)).length = h by simp,Qu hh]
    unfold Mp
    simp [hh]
  refine ⟨⟨Ahb,fun s h hs hh=>by rw [hp s h hs hh]; exact Int.le_refl _,fun h hh=>?_,fun s h hs hh h0=>absurd (hp s h hs hh) h0,fun h hh=>?_⟩,fun s h=>absurd h (Nat.not_lt_zero _),fun s _ hs=>Ib fun h hh=>hp s h hs hh⟩
  · rw [hl h hh]; have:=Tt ok (h:Int); unfold Mp; split <;> omega
  · rw [Ib fun s hs=>hp s h hs hh,hl h hh]; omega
theorem Afq (H:EnO m set i xs) (hi:i < 8) {s:Sale} (hs:m.sales[i]? = some s):EnQ m set i s.grams xs :=
  ⟨H.ok,H.done,by rw [H.rest i (Nat.le_refl _) hi]; unfold Em; rw [hs]; simp,fun s h1 h2=>H.rest s (by omega) h2⟩
theorem Ajk (H:EnQ m set i gr xs) (h0:0 ≤ gr) (h1:¬ 0 < gr):EnO m set (i + 1) xs :=
  ⟨H.ok,fun s h2 h3=>by
    by_cases e:s = i
    · subst e; have:=H.cur; omega
    · exact H.done s (by omega) h3,fun s h2 h3=>H.rest s (by omega) h3⟩
theorem Ajq (H:EnQ m set i gr xs) (hi:i < 8) {tr:List Bool} (M:MoveP (Ds m) (Mp m set) i gr xs tr n xs' tr') (hn:n ≠ 0):EnQ m set i (gr - n) xs':=by
  obtain ⟨_,h2,h3,h4,_,_⟩:=M.res.resolve_left fun h'=>hn h'.1
  refine ⟨M.ok,fun s h5 h6=>?_,?_,fun s h5 h6=>?_⟩
  · rw [h4 s h6 (by omega)]; exact H.done s h5 h6
  · rw [h3]; have:=H.cur; omega
  · rw [h4 s h6 (by omega)]; exact H.rest s h5 h6
theorem Adt:trB (List.replicate 8 false) = fun _=>false:=by
  funext s; unfold trB; rw [List.getD_eq_getElem?_getD,List.getElem?_replicate]; split <;> rfl
theorem Ahw (ok:MarketOk m) (H:EnQ m set i gr xs) (hi:i < 8) (hg:0 < gr) (M:MoveP (Ds m) (Mp m set) i gr xs (List.replicate 8 false) n xs' tr') (hn:n = 0):Fk m set = false:=by
  obtain ⟨_,_,h3⟩:=M.zero (by omega)
  rw [Adt] at h3
  have h4:=Tp (gr:=Em m) H.ok hi M.own h3 (fun s hs=>by
    have:=Aiq ok s
    by_cases e:s < i
    · rw [H.done s e hs]; exact Int.le_refl _
    · by_cases e2:s = i
      · subst e2; have:=H.cur; omega
      · rw [H.rest s (by omega) hs]; omega) (by have:=H.cur; omega)
  cases h:Fk m set with
  | false=>rfl
  | true=>exact absurd ((Zk ok set).2 h) h4
theorem Als (ok:MarketOk m) (H:EnO m set i xs) (hi:m.sales.length ≤ i):Fk m set = true:=by
  refine (Zk ok set).1 (Xc H.ok fun s hs=>?_)
  by_cases e:s < i
  · exact H.done s e hs
  · rw [H.rest s (by omega) hs]; unfold Em; rw [List.getElem?_eq_none (by omega)]
end
set_option maxRecDepth 100000 in
set_option maxHeartbeats 2000000 in
theorem Zr {ρ:Ro} {e:Env} {ty:TypeId} {x y:Operand} {vm vg:Value} {m:Market} {g:Arr5} {l:List Int} (hx:Af e x = vm) (hm:Val ρ vm (⟨m,g⟩:GMarket)) (hy:Af e y = vg) (hg:Val ρ vg (⟨l⟩:Arr5)) :
    ∃ w,(∃ vh vk vf vs g0 g1 g2 g3 g4,Val ρ vs m.sales∧w = .agg ([vh,vk,vf,vs,g0,g1,g2,g3,g4] ++ (List.replicate 40 0 ++ l).map (Value.int .i64)).toArray)∧Yld Tryd.prog ρ e (.build 198 [(0,x),(2,y)].toArray) ty w:=by
  obtain ⟨cs,⟨cm,cg,rfl,hm1,hg1⟩,rfl⟩:=hm
  obtain ⟨vh,vk,vf,vs,e1,_,_,_,hvs⟩:=Market.open_ (x:=m) (v:=.agg cm.toArray) ⟨cm,hm1,rfl⟩
  have e1':cm = [vh,vk,vf,vs]:=by simpa using e1
  have lg:cg.length = 5:=Dat.len hg1
  obtain ⟨cl,⟨hl1,hl2,_⟩,rfl⟩:=hg
  subst e1' hl1
  obtain ⟨b0,b1,b2,b3,b4,rfl⟩:∃ a b c d e,cg = [a,b,c,d,e]:=by
    match cg,lg with
    | [a,b,c,d,e],_=>exact ⟨a,b,c,d,e,rfl⟩
  obtain ⟨a0,a1,a2,a3,a4,rfl⟩:∃ a b c d e,l = [a,b,c,d,e]:=by
    match l,hl2 with
    | [a,b,c,d,e],_=>exact ⟨a,b,c,d,e,rfl⟩
  refine ⟨_,⟨vh,vk,vf,vs,b0,b1,b2,b3,b4,hvs,rfl⟩,?_⟩
  exact Dm (ns:=[9,40,5]) (vs:=[(0,.agg #[vh,vk,vf,vs,b0,b1,b2,b3,b4]),(2,.agg #[.int .i64 a0,.int .i64 a1,.int .i64 a2,.int .i64 a3,.int .i64 a4])]) (zc:=Aqo) Tryd.underlying198 Aqu rfl ⟨⟨_,Ab Tryd.typeInfo133,rfl⟩,⟨_,Ab Tryd.typeInfo196,rfl⟩,⟨_,Ab Tryd.typeInfo130,rfl⟩,trivial⟩
    (EvB.map ⟨⟨rfl,hx⟩,⟨rfl,hy⟩,trivial⟩) ((Bd (cs:=[vh,vk,vf,vs,b0,b1,b2,b3,b4]) rfl rfl (Nat.le_of_ble_eq_true rfl)).trans ((Bd (cs:=[.int .i64 a0,.int .i64 a1,.int .i64 a2,.int .i64 a3,.int .i64 a4]) rfl rfl (Nat.le_of_ble_eq_true rfl)).trans rfl))
end Go.Proofs.YtoefdnbaklajeaaDoor

namespace Go.Proofs.YtoefdnbaklajeaaDoor
open Go
set_option maxHeartbeats 2000000 in
set_option maxRecDepth 100000 in
theorem Ajz {mn:Bool} {X:Frame→List Frame→Ro→Own→Cy→Prop} {ρ:Ro} {σ:Own} {m:Market} {vg:Value} {set:Nat} (rg:Val ρ vg (⟨m,⟨En m⟩⟩:GMarket)) (ok:MarketOk m) (hset:set < 32):CallsH (CX mn X) 115 #[vg,(.int .u64 ((set:Int)))] ρ σ (fun w ρ' σ'=>ρ' = ρ∧σ' = σ∧w = (.bool (Fk m set))):=by
 have hn8:=ok.nsales
 have hh5:=Hp ok
 refine Bh (n:=55) (args:=[vg,(.int .u64 ((set:Int)))]) [4] Tryd.func115 rfl rfl rfl rfl fun Q hret hnor=>?_
 refine w_q rfl rfl fun K1 k1=>?_
 refine Ae rfl (Eb (v:=vg) rfl fun k2=>?_)
 refine Bb (a:=(⟨m,⟨En m⟩⟩:GMarket)) rg fun ρ2 l2 r2=>?_
 replace rg:=Asa l2 rg
 refine l_A (.bool (false)) rfl rfl ?_
 apply Ac
 apply k1
 refine w_q rfl rfl fun K3 k3=>?_
 refine Ak rfl (Ax Vo rfl r2) fun v4 r4=>?_
 refine Ak rfl (Ay GMarket.f_gives Tryd.underlying133 rfl rfl Acn (by decide) rfl r2) fun v5 r5=>?_
 refine Ak rfl (Ax Acn rfl r5) fun v6 r6=>?_
 refine Ak rfl (Zr (ty:=198) (l:=En m) rfl r4 rfl r6) fun w7 hb7=>?_
 obtain ⟨vh_7,vk_7,vf_7,vs_7,g0_7,g1_7,g2_7,g3_7,g4_7,rsv,hb7⟩:=hb7
 subst hb7
 refine Ae rfl (Eb (v:=(.agg ([vh_7,vk_7,vf_7,vs_7,g0_7,g1_7,g2_7,g3_7,g4_7] ++ (List.replicate 40 (0:Int) ++ En m).map (Value.int .i64)).toArray)) rfl fun k8=>?_)
 have hxl:(List.replicate 40 (0:Int) ++ En m).length = 45:=by simp [En]
 refine l_A (.pointer (some ⟨k8,0,none⟩)) rfl rfl ?_
 apply Ac
 apply k3
 refine Ai fun K9 k9=>?_
 refine w_q rfl rfl fun K10 k10=>?_
 refine l_M (iV (0)) rfl rfl ?_
 apply Ac
 apply k10
 refine Ao ?_
 refine Cc (fun mm ee dd ρ' σ'=>∃ (h:Nat) (rx11_5:List Int),(5 - h) = mm∧[] = dd∧ρ2 = ρ'∧((k8,Res.obj (Obj.cells ([vh_7,vk_7,vf_7,vs_7,g0_7,g1_7,g2_7,g3_7,g4_7] ++ rx11_5.map (Value.int .i64)).toArray 198 (0,0))) :: σ) = σ'∧ee 1 = (.int .u64 ((set:Int)))∧ee 2 = (.pointer (some ⟨k2,0,none⟩))∧ee 5 = (.pointer (some ⟨k8,0,none⟩))∧ee 16 = (iV ((h:Int)))∧(h ≤ 5)∧rx11_5 = Oj m set h∧rx11_5.length = 45∧True) (m:=_) ⟨0,(List.replicate 40 (0:Int) ++ En m),rfl,rfl,rfl,rfl,rfl,rfl,rfl,rfl,(Nat.zero_le _),(Aox),hxl,trivial⟩ ?_
 rintro m11 e11 _ _ _ ⟨h,rx11_5,rfl,rfl,rfl,rfl,h11_1,h11_2,h11_5,h11_16,p11_0,RX11_5,RL11_5,_⟩
 refine w_q rfl rfl fun K12 k12=>?_
 refine Aa rfl (Da (p:=(h:Int)) (q:=5) h11_16 rfl) ?_
 apply Ac
 apply k12
 refine Ai fun K13 k13=>?_
 refine As (t:=decide ((h:Int) < 5)) rfl (fun b14=>?_) (fun b14=>?_)
 ·have q14:=of_decide_eq_true b14
  refine Al ?_
  apply k13
  refine Ai fun K15 k15=>?_
  refine Ao ?_
  refine w_q rfl rfl fun K16 k16=>?_
  refine Aa rfl (Ah (v:=(iV ((h:Int)))) h11_16) ?_
  refine l_A (iV ((h:Int))) rfl rfl ?_
  apply Ac
  apply k16
  refine w_q rfl rfl fun K17 k17=>?_
  refine Aa rfl (Ah (v:=(.int .u64 ((set:Int)))) h11_1) ?_
  refine l_M (iV ((h:Int))) rfl rfl ?_
  refine Aa rfl (Jq (p:=set) (q:=h) rfl rfl rfl (by omega)) ?_
  refine Aa rfl (Na (p:=(set >>> h)) (q:=1) rfl rfl (Ns (by omega))) ?_
  refine Aa rfl (Ek (p:=((((set >>> h) &&& 1):Nat):Int)) (q:=1) rfl rfl) ?_
  apply Ac
  apply k17
  refine As (t:=((((set >>> h) &&& 1):Nat):Int) == 1) rfl (fun b18=>?_) (fun b18=>?_)
  ·have hbt19:=bitM.symm.trans b18
   rw [Pz,← Ez] at hbt19
   have q18:=Jo b18
   refine Ag rfl rfl ?_
   refine Aa rfl (Ah (v:=(.pointer (some ⟨k8,0,none⟩))) h11_5) ?_
   refine l_M (iV ((h:Int))) rfl rfl ?_
   refine Aa rfl (Ck rfl) ?_
   refine Aa rfl (Cb (off':=49) Tryd.underlying198 rfl rfl ⟨_,Ab Tryd.typeInfo130,rfl⟩ (by decide) rfl rfl) ?_
   refine Aa rfl (Cq (k':=1) h Tryd.underlying130 ⟨_,Ab Tryd.typeInfo3,rfl⟩ rfl (q:=(h:Int)) rfl rfl (by omega) (off':=(9 + (40 + h))) (by omega)) ?_
   refine Cx rfl (Nc (j:=0) (f:=(Value.int .i64)) (pc:=[vh_7,vk_7,vf_7,vs_7,g0_7,g1_7,g2_7,g3_7,g4_7]) (i:=(40 + h)) (bv:=8000000) ⟨_,Ab Tryd.typeInfo3,rfl⟩ rfl rfl rfl rfl rfl (by rw [RL11_5]; omega) ?_)
   apply Ac
   apply k15
   refine Ag rfl rfl ?_
   refine Aa rfl (Br (p:=(h:Int)) (q:=1) h11_16 rfl (z:=(((h + 1):Nat):Int)) (Bo (by first | rfl | omega | (push_cast; rfl)) (by omega) (by omega))) ?_
   refine l_M (iV ((((h + 1):Nat):Int))) rfl rfl ?_
   apply Ac
   refine ⟨_,?_,((h + 1)),(rx11_5.set ((40 + h)) 8000000),rfl,rfl,rfl,rfl,h11_1,h11_2,h11_5,rfl,(by omega),(by rw [RX11_5]; exact Aos (by omega) hbt19),(List.length_set.trans RL11_5),trivial⟩
   omega
  have hbt20:=bitM.symm.trans b18
  rw [Pz,← Ez] at hbt20
  have q18:=La b18
  refine Al ?_
  apply k15
  refine Ag rfl rfl ?_
  refine Aa rfl (Br (p:=(h:Int)) (q:=1) h11_16 rfl (z:=(((h + 1):Nat):Int)) (Bo (by first | rfl | omega | (push_cast; rfl)) (by omega) (by omega))) ?_
  refine l_M (iV ((((h + 1):Nat):Int))) rfl rfl ?_
  apply Ac
  refine ⟨_,?_,((h + 1)),rx11_5,rfl,rfl,rfl,rfl,h11_1,h11_2,h11_5,rfl,(by omega),(by rw [RX11_5]; exact Aoy hbt20),RL11_5,trivial⟩
  omega
 have q14:=of_decide_eq_false b14
 refine Bx ?_
 apply k9
 refine Ai fun K21 k21=>?_
 refine w_q rfl rfl fun K22 k22=>?_
 refine Ak rfl (Ay GMarket.f_m Tryd.underlying133 rfl rfl Lj (by decide) h11_2 r2) fun v23 r23=>?_
 refine Ak rfl (Ay Market.f_sales Tryd.underlying26 rfl rfl Pq (by decide) rfl r23) fun v24 r24=>?_
 refine Ak rfl (Ax Pq rfl r24) fun v25 r25=>?_
 have g26:=Val.len r25
 refine Aa rfl (Ce (el:=59) Tryd.underlying24 rfl r25) ?_
 refine l_M (iV (0)) rfl rfl ?_
 apply Ac
 apply k22
 refine Ao ?_
 refine Cc (fun mm ee dd ρ' σ'=>∃ (i:Nat) (xq:List Int) (rx27_5:List Int),(m.sales.length - i) = mm∧[] = dd∧ρ2 = ρ'∧((k8,Res.obj (Obj.cells ([vh_7,vk_7,vf_7,vs_7,g0_7,g1_7,g2_7,g3_7,g4_7] ++ rx27_5.map (Value.int .i64)).toArray 198 (0,0))) :: σ) = σ'∧ee 32 = v25∧ee 33 = (iV (((m.sales.length:Nat):Int)))∧ee 5 = (.pointer (some ⟨k8,0,none⟩))∧ee 34 = (iV ((i:Int)))∧(i ≤ m.sales.length)∧(EnO m set i xq)∧rx27_5 = xq∧rx27_5.length = 45∧True) (m:=_) ⟨0,rx11_5,rx11_5,rfl,rfl,rfl,rfl,rfl,rfl,h11_5,rfl,(Nat.zero_le _),(by rw [RX11_5,show h = 5 by omega]; exact Ake ok),(rfl),RL11_5,trivial⟩ ?_
 rintro m27 e27 _ _ _ ⟨i,xq,rx27_5,rfl,rfl,rfl,rfl,h27_32,h27_33,h27_5,h27_34,p27_0,p27_1,RX27_5,RL27_5,_⟩
 subst RX27_5
 refine w_q rfl rfl fun K28 k28=>?_
 refine Aa rfl (Da (p:=(i:Int)) (q:=((m.sales.length:Nat):Int)) h27_34 h27_33) ?_
 apply Ac
 apply k28
 refine Ai fun K29 k29=>?_
 refine As (t:=decide ((i:Int) < ((m.sales.length:Nat):Int))) rfl (fun b30=>?_) (fun b30=>?_)
 ·have q30:=of_decide_eq_true b30
  refine Al ?_
  apply k29
  refine Ai fun K31 k31=>?_
  refine Ao ?_
  refine w_q rfl rfl fun K32 k32=>?_
  refine Aa rfl (Ah (v:=(iV ((i:Int)))) h27_34) ?_
  obtain ⟨a34,ha34⟩:=Ed (xs:=m.sales) (i:=i) (by omega)
  have gs_a34:=ok.sale _ _ ha34
  refine Ak rfl (Ci i Tryd.underlying24 Su h27_32 r25 (q:=(i:Int)) h27_34 rfl ha34) fun v33 r33=>?_
  refine Ak rfl (Ax Su rfl r33) fun v35 r35=>?_
  refine Ae rfl (Ct Aeo fun k36=>?_)
  refine l_A (iV ((i:Int))) rfl rfl ?_
  refine Cx rfl (Du (v:=v35) (a:=a34) (c:=Ags) Su rfl rfl r35 rfl ?_)
  refine Bb (a:=a34) r35 fun ρ37 l37 r37=>?_
  replace rsv:=Asa l37 rsv
  replace r25:=Asa l37 r25
  replace r33:=Arv l37 r33
  replace r35:=Asa l37 r35
  apply Ac
  apply k32
  refine w_q rfl rfl fun K38 k38=>?_
  refine Ak rfl (Ay Sale.f_grams Tryd.underlying59 rfl rfl ty3 (by decide) rfl r37) fun v39 r39=>?_
  have ⟨g40a,g40b⟩:=At.rng r39
  refine Aa rfl (Bc ty3 rfl r39) ?_
  refine l_A (iV (a34.grams)) rfl rfl ?_
  apply Ac
  apply k38
  refine Ao ?_
  refine Cc (fun mm ee dd ρ' σ'=>∃ (gr:Int) (xq:List Int) (rx41_5:List Int),(gr.toNat) = mm∧[] = dd∧ρ37 = ρ'∧((k8,Res.obj (Obj.cells ([vh_7,vk_7,vf_7,vs_7,g0_7,g1_7,g2_7,g3_7,g4_7] ++ rx41_5.map (Value.int .i64)).toArray 198 (0,0))) :: σ) = σ'∧ee 7 = (iV ((i:Int)))∧ee 32 = v25∧ee 33 = (iV (((m.sales.length:Nat):Int)))∧ee 34 = (iV ((i:Int)))∧ee 5 = (.pointer (some ⟨k8,0,none⟩))∧ee 9 = (iV (gr))∧(EnQ m set i gr xq)∧(0 ≤ gr)∧(gr ≤ 1000000)∧rx41_5 = xq∧rx41_5.length = 45∧True) (m:=_) ⟨a34.grams,rx27_5,rx27_5,rfl,rfl,rfl,rfl,rfl,h27_32,h27_33,h27_34,h27_5,rfl,(Afq p27_1 (by omega) ha34),(by omega),(by omega),(rfl),RL27_5,trivial⟩ ?_
  rintro m41 e41 _ _ _ ⟨gr,xq,rx41_5,rfl,rfl,rfl,rfl,h41_7,h41_32,h41_33,h41_34,h41_5,h41_9,p41_0,p41_1,p41_2,RX41_5,RL41_5,_⟩
  subst RX41_5
  refine Ai fun K42 k42=>?_
  refine w_q rfl rfl fun K43 k43=>?_
  refine Aa rfl (Ah (v:=(iV (gr))) h41_9) ?_
  refine Aa rfl (Gk (p:=gr) (q:=0) rfl rfl) ?_
  apply Ac
  apply k43
  refine As (t:=decide (gr > 0)) rfl (fun b44=>?_) (fun b44=>?_)
  ·have q44:=of_decide_eq_true b44
   refine Al ?_
   apply k42
   refine Ao ?_
   refine w_q rfl rfl fun K45 k45=>?_
   refine Aa rfl (Ah (v:=(.pointer (some ⟨k8,0,none⟩))) h41_5) ?_
   refine Aa rfl (Ah (v:=(iV ((i:Int)))) h41_7) ?_
   refine Aa rfl (Ah (v:=(iV (gr))) h41_9) ?_
   refine Aa rfl (Afx Tryd.underlying201 Aqm (zc:=(List.replicate 8 false).map Value.bool) rfl ⟨_,Ab Tryd.typeInfo4,rfl⟩) ?_
   refine Ae rfl (Eb (v:=(.agg ((List.replicate 8 false).map Value.bool).toArray)) rfl fun k46=>?_)
   refine Bj (σ':=((k8,Res.obj (Obj.cells ([vh_7,vk_7,vf_7,vs_7,g0_7,g1_7,g2_7,g3_7,g4_7] ++ rx41_5.map (Value.int .i64)).toArray 198 (0,0))) :: ((k46,Res.obj (Obj.cells (((List.replicate 8 false)).map Value.bool).toArray 201 (0,0))) :: σ))) (Arx (List.perm_append_comm_assoc ([(k46,Res.obj (Obj.cells (((List.replicate 8 false)).map Value.bool).toArray 201 (0,0)))]) ([(k8,Res.obj (Obj.cells ([vh_7,vk_7,vf_7,vs_7,g0_7,g1_7,g2_7,g3_7,g4_7] ++ rx41_5.map (Value.int .i64)).toArray 198 (0,0)))]) _)) ?_
   refine Bj (σ':=((k46,Res.obj (Obj.cells (((List.replicate 8 false)).map Value.bool).toArray 201 (0,0))) :: ((k8,Res.obj (Obj.cells ([vh_7,vk_7,vf_7,vs_7,g0_7,g1_7,g2_7,g3_7,g4_7] ++ rx41_5.map (Value.int .i64)).toArray 198 (0,0))) :: σ))) (Arx (List.perm_append_comm_assoc ([(k8,Res.obj (Obj.cells ([vh_7,vk_7,vf_7,vs_7,g0_7,g1_7,g2_7,g3_7,g4_7] ++ rx41_5.map (Value.int .i64)).toArray 198 (0,0)))]) ([(k46,Res.obj (Obj.cells (((List.replicate 8 false)).map Value.bool).toArray 201 (0,0)))]) _)) ?_
   refine Ae rfl (Cm (vs:=[(.pointer (some ⟨k8,0,none⟩)),(iV ((i:Int))),(iV (gr)),(.pointer (some ⟨k46,0,none⟩))]) (Anj (sale:=i) (g:=gr) (cap:=Mp m set) (xs:=rx41_5) (tr:=List.replicate 8 false) rsv ok (Amb ok set) p41_0.ok (by omega) (by omega) (by omega) rfl (by rw [Adt])) Tryd.func128 rfl rfl ⟨rfl,rfl,rfl,rfl,trivial⟩ fun w47 ρ47 σ47 hc47=>?_)
   obtain ⟨hr47,n47,ys47,us47,hw47,hs47,MP47⟩:=hc47
   replace hr47:=hr47.symm; subst hr47 hs47 hw47
   have hn47:=MP47.n0
   have hl47:=MP47.le
   refine l_A (iV (n47)) rfl rfl ?_
   apply Ac
   apply k45
   refine Ai fun K48 k48=>?_
   refine w_q rfl rfl fun K49 k49=>?_
   refine l_M (iV (n47)) rfl rfl ?_
   refine Aa rfl (Ek (p:=n47) (q:=0) rfl rfl) ?_
   apply Ac
   apply k49
   refine As (t:=n47 == 0) rfl (fun b50=>?_) (fun b50=>?_)
   ·have q50:=Jo b50
    refine w_q rfl rfl fun K51 k51=>?_
    refine l_A (.bool (false)) rfl rfl ?_
    apply Ac
    apply k51
    refine Aj Ghost.drop ?_
    refine Aj Ghost.drop ?_
    refine Aj (Arw (Arz l2 l37)) ?_
    refine Aq ?_
    refine hret _ _ _ ?_
    refine ⟨rfl,rfl,Eq.trans (b:=(.bool (false))) rfl ?_⟩
    rw [Ahw ok p41_0 (by omega) (by omega) MP47 q50]
   have q50:=La b50
   refine Al ?_
   apply k48
   refine Ag rfl rfl ?_
   refine Aa rfl (Ah (v:=(iV (gr))) h41_9) ?_
   refine l_M (iV (n47)) rfl rfl ?_
   refine Aa rfl (Oq (p:=gr) (q:=n47) rfl rfl (z:=(gr - n47)) (Bo (by rfl) (by omega) (by omega))) ?_
   refine l_A (iV ((gr - n47))) rfl rfl ?_
   refine Bj Ghost.drop ?_
   apply Ac
   refine ⟨_,?_,((gr - n47)),(ys47),ys47,rfl,rfl,rfl,rfl,h41_7,h41_32,h41_33,h41_34,h41_5,rfl,(Ajq p41_0 (by omega) MP47 q50),(by omega),(by omega),(rfl),MP47.ok.len,trivial⟩
   have:=q50; omega
  have q44:=of_decide_eq_false b44
  refine Bx ?_
  apply k31
  refine Ag rfl rfl ?_
  refine Aa rfl (Br (p:=(i:Int)) (q:=1) h41_34 rfl (z:=(((i + 1):Nat):Int)) (Bo (by first | rfl | omega | (push_cast; rfl)) (by omega) (by omega))) ?_
  refine l_M (iV ((((i + 1):Nat):Int))) rfl rfl ?_
  refine Bj (Arw l37) ?_
  apply Ac
  refine ⟨_,?_,((i + 1)),(rx41_5),rx41_5,rfl,rfl,rfl,rfl,h41_32,h41_33,h41_5,rfl,(by omega),(Ajk p41_0 p41_1 q44),(rfl),RL41_5,trivial⟩
  omega
 have q30:=of_decide_eq_false b30
 refine Bx ?_
 apply k21
 refine w_q rfl rfl fun K52 k52=>?_
 refine l_A (.bool (true)) rfl rfl ?_
 apply Ac
 apply k52
 refine Aj Ghost.drop ?_
 refine Aj (Arw l2) ?_
 refine Aq ?_
 refine hret _ _ _ ?_
 refine ⟨rfl,rfl,Eq.trans (b:=(.bool (true))) rfl ?_⟩
 rw [Als ok p27_1 (by omega)]
end Go.Proofs.YtoefdnbaklajeaaDoor

namespace Go.Proofs.YtoefdnbaklajeaaDoor
open Go
def uws (xs:List Nat):List UW:=xs.map UW.mk
theorem Xe {xs:List Nat}:(uws xs).length = xs.length:=by simp [uws]
theorem Alv {xs:List Nat} {i:Nat} {a:UW} (h:(uws xs)[i]? = some a):∃ t,xs[i]? = some t∧a = UW.mk t:=by
 unfold uws at h
 rw [List.getElem?_map] at h
 obtain ⟨t,h1,rfl⟩:=Option.map_eq_some_iff.1 h
 exact ⟨t,h1,rfl⟩
theorem Afn {α β:Type} {f:α→β} {xs:List α} {i:Nat} {t:α} (h:xs[i]? = some t):xs.map f = (xs.take i).map f ++ f t :: (xs.drop (i + 1)).map f:=by
 obtain ⟨h1,h2⟩:=List.getElem?_eq_some_iff.1 h
 have e:xs = xs.take i ++ t :: xs.drop (i + 1):=by
  rw [← h2,← List.drop_eq_getElem_cons h1,List.take_append_drop]
 have e2:=congrArg (List.map f) e
 rw [List.map_append,List.map_cons] at e2
 exact e2
theorem Agz {α β:Type} {f:α→β} {xs:List α} {i:Nat} {t:α} (h:xs[i]? = some t):(xs.take (i + 1)).map f = (xs.take i).map f ++ [f t]:=by
 rw [List.take_add_one,h,List.map_append]; rfl
theorem Ajg:(List.range 32).all (fun x=>(let a:=((x >>> 1) &&& 6148914691236517205) + (x &&& 6148914691236517205); let b:=((a >>> 2) &&& 3689348814741910323) + (a &&& 3689348814741910323); let c:=((b >>> 4) + b) &&& 1085102592571150095; let d:=c + (c >>> 8); let e:=d + (d >>> 16); let f:=e + (e >>> 32); f &&& 127) == De x) = true:=by decide +kernel
theorem Aki {x a b c d e f:Nat} (hx:x < 32) (ha:a = ((x >>> 1) &&& 6148914691236517205) + (x &&& 6148914691236517205)) (hb:b = ((a >>> 2) &&& 3689348814741910323) + (a &&& 3689348814741910323)) (hc:c = ((b >>> 4) + b) &&& 1085102592571150095) (hd:d = c + (c >>> 8)) (he:e = d + (d >>> 16)) (hf:f = e + (e >>> 32)):f &&& 127 = De x:=by
 have:=List.all_eq_true.1 Ajg x (List.mem_range.2 hx)
 subst ha hb hc hd he hf
 simpa using this
set_option maxRecDepth 100000 in
theorem Agj {mn:Bool} {X:Frame→List Frame→Ro→Own→Cy→Prop} {ρ:Ro} {σ:Own} {x:Nat} (hx:x < 32):CallsH (CX mn X) 117 #[(.int .u64 ((x:Int)))] ρ σ (fun w ρ' σ'=>ρ' = ρ∧σ' = σ∧w = (iV (((De x:Nat):Int)))):=by
 refine Bh (n:=35) (args:=[(.int .u64 ((x:Int)))]) [2] Tryd.func117 rfl rfl rfl rfl fun Q hret hnor=>?_
 refine w_q rfl rfl fun K1 k1=>?_
 refine l_A (iV (0)) rfl rfl ?_
 apply Ac
 apply k1
 refine w_q rfl rfl fun K2 k2=>?_
 refine l_M (.int .u64 ((x:Int))) rfl rfl ?_
 have hn3:=Nat.shiftRight_le x 1
 refine Aa rfl (Jq (p:=x) (q:=1) rfl rfl rfl (by omega)) ?_
 have hn4:(x >>> 1) &&& 6148914691236517205 ≤ (x >>> 1):=Nat.and_le_left
 refine Aa rfl (Na (p:=(x >>> 1)) (q:=6148914691236517205) rfl rfl (by omega)) ?_
 refine l_M (.int .u64 ((x:Int))) rfl rfl ?_
 have hn5:x &&& 6148914691236517205 ≤ x:=Nat.and_le_left
 refine Aa rfl (Na (p:=x) (q:=6148914691236517205) rfl rfl (by omega)) ?_
 refine Aa rfl (Br (p:=((((x >>> 1) &&& 6148914691236517205):Nat):Int)) (q:=(((x &&& 6148914691236517205):Nat):Int)) rfl rfl (z:=(((((x >>> 1) &&& 6148914691236517205) + (x &&& 6148914691236517205)):Nat):Int)) ((Eu (by omega) (by omega)).trans (by push_cast; rfl))) ?_
 obtain ⟨a,ha_⟩:∃ a,a = (((x >>> 1) &&& 6148914691236517205) + (x &&& 6148914691236517205)):=⟨_,rfl⟩
 refine Aa rfl (Cp (v:=(.int .u64 (a:Int))) ((show _ = Value.int .u64 ((((((x >>> 1) &&& 6148914691236517205) + (x &&& 6148914691236517205))):Nat):Int) from rfl).trans (by rw [ha_]))) ?_
 apply Ac
 apply k2
 refine w_q rfl rfl fun K6 k6=>?_
 refine l_M (.int .u64 ((a:Int))) rfl rfl ?_
 have hn7:=Nat.shiftRight_le a 2
 refine Aa rfl (Jq (p:=a) (q:=2) rfl rfl rfl (by omega)) ?_
 have hn8:(a >>> 2) &&& 3689348814741910323 ≤ (a >>> 2):=Nat.and_le_left
 refine Aa rfl (Na (p:=(a >>> 2)) (q:=3689348814741910323) rfl rfl (by omega)) ?_
 refine l_M (.int .u64 ((a:Int))) rfl rfl ?_
 have hn9:a &&& 3689348814741910323 ≤ a:=Nat.and_le_left
 refine Aa rfl (Na (p:=a) (q:=3689348814741910323) rfl rfl (by omega)) ?_
 refine Aa rfl (Br (p:=((((a >>> 2) &&& 3689348814741910323):Nat):Int)) (q:=(((a &&& 3689348814741910323):Nat):Int)) rfl rfl (z:=(((((a >>> 2) &&& 3689348814741910323) + (a &&& 3689348814741910323)):Nat):Int)) ((Eu (by omega) (by omega)).trans (by push_cast; rfl))) ?_
 obtain ⟨b,hb_⟩:∃ b,b = (((a >>> 2) &&& 3689348814741910323) + (a &&& 3689348814741910323)):=⟨_,rfl⟩
 refine Aa rfl (Cp (v:=(.int .u64 (b:Int))) ((show _ = Value.int .u64 ((((((a >>> 2) &&& 3689348814741910323) + (a &&& 3689348814741910323))):Nat):Int) from rfl).trans (by rw [hb_]))) ?_
 apply Ac
 apply k6
 refine w_q rfl rfl fun K10 k10=>?_
 refine l_M (.int .u64 ((b:Int))) rfl rfl ?_
 have hn11:=Nat.shiftRight_le b 4
 refine Aa rfl (Jq (p:=b) (q:=4) rfl rfl rfl (by omega)) ?_
 refine l_M (.int .u64 ((b:Int))) rfl rfl ?_
 refine Aa rfl (Br (p:=(((b >>> 4):Nat):Int)) (q:=(b:Int)) rfl rfl (z:=((((b >>> 4) + b):Nat):Int)) ((Eu (by omega) (by omega)).trans (by push_cast; rfl))) ?_
 have hn12:((b >>> 4) + b) &&& 1085102592571150095 ≤ ((b >>> 4) + b):=Nat.and_le_left
 refine Aa rfl (Na (p:=((b >>> 4) + b)) (q:=1085102592571150095) rfl rfl (by omega)) ?_
 obtain ⟨c,hc_⟩:∃ c,c = (((b >>> 4) + b) &&& 1085102592571150095):=⟨_,rfl⟩
 refine Aa rfl (Cp (v:=(.int .u64 (c:Int))) ((show _ = Value.int .u64 ((((((b >>> 4) + b) &&& 1085102592571150095)):Nat):Int) from rfl).trans (by rw [hc_]))) ?_
 apply Ac
 apply k10
 refine w_q rfl rfl fun K13 k13=>?_
 refine l_M (.int .u64 ((c:Int))) rfl rfl ?_
 refine l_M (.int .u64 ((c:Int))) rfl rfl ?_
 have hn14:=Nat.shiftRight_le c 8
 refine Aa rfl (Jq (p:=c) (q:=8) rfl rfl rfl (by omega)) ?_
 refine Aa rfl (Br (p:=(c:Int)) (q:=(((c >>> 8):Nat):Int)) rfl rfl (z:=(((c + (c >>> 8)):Nat):Int)) ((Eu (by omega) (by omega)).trans (by push_cast; rfl))) ?_
 obtain ⟨d,hd_⟩:∃ d,d = (c + (c >>> 8)):=⟨_,rfl⟩
 refine Aa rfl (Cp (v:=(.int .u64 (d:Int))) ((show _ = Value.int .u64 ((((c + (c >>> 8))):Nat):Int) from rfl).trans (by rw [hd_]))) ?_
 apply Ac
 apply k13
 refine w_q rfl rfl fun K15 k15=>?_
 refine l_M (.int .u64 ((d:Int))) rfl rfl ?_
 refine l_M (.int .u64 ((d:Int))) rfl rfl ?_
 have hn16:=Nat.shiftRight_le d 16
 refine Aa rfl (Jq (p:=d) (q:=16) rfl rfl rfl (by omega)) ?_
 refine Aa rfl (Br (p:=(d:Int)) (q:=(((d >>> 16):Nat):Int)) rfl rfl (z:=(((d + (d >>> 16)):Nat):Int)) ((Eu (by omega) (by omega)).trans (by push_cast; rfl))) ?_
 obtain ⟨e,he_⟩:∃ e,e = (d + (d >>> 16)):=⟨_,rfl⟩
 refine Aa rfl (Cp (v:=(.int .u64 (e:Int))) ((show _ = Value.int .u64 ((((d + (d >>> 16))):Nat):Int) from rfl).trans (by rw [he_]))) ?_
 apply Ac
 apply k15
 refine w_q rfl rfl fun K17 k17=>?_
 refine l_M (.int .u64 ((e:Int))) rfl rfl ?_
 refine l_M (.int .u64 ((e:Int))) rfl rfl ?_
 have hn18:=Nat.shiftRight_le e 32
 refine Aa rfl (Jq (p:=e) (q:=32) rfl rfl rfl (by omega)) ?_
 refine Aa rfl (Br (p:=(e:Int)) (q:=(((e >>> 32):Nat):Int)) rfl rfl (z:=(((e + (e >>> 32)):Nat):Int)) ((Eu (by omega) (by omega)).trans (by push_cast; rfl))) ?_
 obtain ⟨f,hf_⟩:∃ f,f = (e + (e >>> 32)):=⟨_,rfl⟩
 refine Aa rfl (Cp (v:=(.int .u64 (f:Int))) ((show _ = Value.int .u64 ((((e + (e >>> 32))):Nat):Int) from rfl).trans (by rw [hf_]))) ?_
 apply Ac
 apply k17
 refine w_q rfl rfl fun K19 k19=>?_
 refine l_M (.int .u64 ((f:Int))) rfl rfl ?_
 refine Aa rfl (Abu (p:=(f:Int)) (z:=(f:Int)) Tryd.underlying187 Tryd.underlying3 rfl (Bo rfl (by omega) (by omega))) ?_
 have hn20:f &&& 127 ≤ f:=Nat.and_le_left
 refine Aa rfl (Qi (p:=f) (q:=127) rfl rfl (by omega)) ?_
 refine l_A (iV ((((f &&& 127):Nat):Int))) rfl rfl ?_
 apply Ac
 apply k19
 refine Aq ?_
 refine hret _ _ _ ?_
 refine ⟨rfl,rfl,Eq.trans (b:=(iV ((((f &&& 127):Nat):Int)))) rfl ?_⟩
 rw [Aki hx ha_ hb_ hc_ hd_ he_ hf_]
set_option maxRecDepth 100000 in
theorem Ann {mn:Bool} {X:Frame→List Frame→Ro→Own→Cy→Prop} {ρ:Ro} {σ:Own} {x:Nat} (hx:x < 32):CallsH (CX mn X) 84 #[(.int .u64 ((x:Int)))] ρ σ (fun w ρ' σ'=>ρ' = ρ∧σ' = σ∧w = (iV (((De x:Nat):Int)))):=by
 refine Bh (n:=8) (args:=[(.int .u64 ((x:Int)))]) [2] Tryd.func84 rfl rfl rfl rfl fun Q hret hnor=>?_
 refine w_q rfl rfl fun K1 k1=>?_
 refine l_A (iV (0)) rfl rfl ?_
 apply Ac
 apply k1
 refine Ai fun K2 k2=>?_
 refine Cg rfl rfl ?_
 refine Al ?_
 apply k2
 refine w_q rfl rfl fun K3 k3=>?_
 refine l_M (.int .u64 ((x:Int))) rfl rfl ?_
 refine Ae rfl (Bn (vs:=[(.int .u64 ((x:Int)))]) (v:=(iV ((((De x):Nat):Int)))) (Agj (x:=x) (by omega)) Tryd.func117 rfl rfl ⟨rfl,trivial⟩ ?_)
 refine l_A (iV ((((De x):Nat):Int))) rfl rfl ?_
 apply Ac
 apply k3
 refine Aq ?_
 refine hret _ _ _ ?_
 refine ⟨rfl,rfl,Eq.trans (b:=(iV ((((De x):Nat):Int)))) rfl ?_⟩
 rfl
set_option maxRecDepth 100000 in
theorem Akq {xs:List Nat} {ρ₀:Ro} {vc:Value} (hc:At ρ₀ vc (uws xs)):IterF (.func (.func 118) #[] #[vc]) ρ₀ (xs.map (fun x:Nat=>Value.int .u64 (x:Int))):=by
 refine ⟨118,_,[vc],rfl,Tryd.func118,rfl,rfl,?_⟩
 intro mn X l I ρ σ hle hmono hI hy
 replace hc:=hc.mono hle
 have hml:=Xe (xs:=xs)
 refine Bh (n:=16) (args:=[(.func (.yield l) #[] #[]),vc]) [] Tryd.func118 rfl rfl rfl rfl fun Q hret hnor=>?_
 refine w_q rfl rfl fun K1 k1=>?_
 refine Ak rfl (Ax Ari rfl hc) fun v2 r2=>?_
 have g3:=Val.len r2
 refine Aa rfl (Ce (el:=136) Tryd.underlying135 rfl r2) ?_
 refine l_M (iV (0)) rfl rfl ?_
 apply Ac
 apply k1
 refine Ao ?_
 refine Cc (fun mm ee dd ρ' σ'=>∃ (i:Nat) (σb4:Own),((uws xs).length - i) = mm∧[] = dd∧Ro.le ρ ρ'∧σb4 = σ'∧ee 0 = (.func (.yield l) #[] #[])∧ee 5 = v2∧ee 6 = (iV ((((uws xs).length:Nat):Int)))∧ee 7 = (iV ((i:Int)))∧(i ≤ (uws xs).length)∧I ((xs.take i).map (fun x:Nat=>Value.int .u64 (x:Int))) ρ' σb4∧True) (m:=_) ⟨0,σ,rfl,rfl,Ary,rfl,rfl,rfl,rfl,rfl,(Nat.zero_le _),hI,trivial⟩ ?_
 rintro m4 e4 _ ρ4 _ ⟨i,σb4,rfl,rfl,l4,rfl,h4_0,h4_5,h4_6,h4_7,p4_0,IB4,_⟩
 replace r2:=Asa l4 r2
 refine w_q rfl rfl fun K5 k5=>?_
 refine Aa rfl (Da (p:=(i:Int)) (q:=(((uws xs).length:Nat):Int)) h4_7 h4_6) ?_
 apply Ac
 apply k5
 refine Ai fun K6 k6=>?_
 refine As (t:=decide ((i:Int) < (((uws xs).length:Nat):Int))) rfl (fun b7=>?_) (fun b7=>?_)
 ·have q7:=of_decide_eq_true b7
  refine Al ?_
  apply k6
  refine Ai fun K8 k8=>?_
  refine Ao ?_
  refine w_q rfl rfl fun K9 k9=>?_
  obtain ⟨a11,ha11⟩:=Ed (xs:=uws xs) (i:=i) (by omega)
  obtain ⟨t12,ht12,hp12⟩:=Alv ha11
  subst hp12
  refine Ak rfl (Ci i Tryd.underlying135 Yo h4_5 r2 (q:=(i:Int)) h4_7 rfl ha11) fun v10 r10=>?_
  refine Aa rfl (Aeg Yo rfl r10) ?_
  refine l_A (.int .u64 ((t12:Int))) rfl rfl ?_
  apply Ac
  apply k9
  refine w_q rfl rfl fun K14 k14=>?_
  refine Aa rfl (Ah (v:=(.func (.yield l) #[] #[])) h4_0) ?_
  refine l_M (.int .u64 ((t12:Int))) rfl rfl ?_
  refine Ae rfl (Xj (v:=(.int .u64 ((t12:Int)))) rfl rfl (hy ((xs.take i).map (fun x:Nat=>Value.int .u64 (x:Int))) (.int .u64 ((t12:Int))) ((xs.drop (i + 1)).map (fun x:Nat=>Value.int .u64 (x:Int))) _ _ (Afn ht12) l4 IB4) fun w15 ρ15 σ15 hc15=>?_)
  obtain ⟨hw15,l15,I15⟩:=hc15
  subst hw15
  replace r2:=Asa l15 r2
  refine Aa rfl (Ix (k:=true) rfl) ?_
  apply Ac
  apply k14
  refine Cg rfl (not_t rfl) ?_
  refine Al ?_
  apply k8
  refine Ag rfl rfl ?_
  refine Aa rfl (Br (p:=(i:Int)) (q:=1) h4_7 rfl (z:=(((i + 1):Nat):Int)) (Bo (by first | rfl | omega | (push_cast; rfl)) (by omega) (by omega))) ?_
  refine l_M (iV ((((i + 1):Nat):Int))) rfl rfl ?_
  apply Ac
  refine ⟨_,?_,((i + 1)),σ15,rfl,rfl,(Arz l4 l15),rfl,h4_0,h4_5,h4_6,rfl,(by omega),(Yy (Agz ht12) I15),trivial⟩
  omega
 have q7:=of_decide_eq_false b7
 refine Bx ?_
 refine hnor _ _ _ ?_
 refine ⟨l4,?_⟩
 have hz:=IB4
 rw [List.take_of_length_le (by omega)] at hz; exact hz
set_option maxRecDepth 100000 in
theorem Ain {mn:Bool} {X:Frame→List Frame→Ro→Own→Cy→Prop} {ρ:Ro} {σ:Own} {xs:List Nat} {va:Value} (ra:Val ρ va (uws xs)):CallsH (CX mn X) 86 #[va] ρ σ (fun w ρ' σ'=>Ro.le ρ ρ'∧σ' = σ∧IterF w ρ' (xs.map (fun x:Nat=>Value.int .u64 (x:Int)))):=by
 refine Bh (n:=4) (args:=[va]) [2] Tryd.func86 rfl rfl rfl rfl fun Q hret hnor=>?_
 refine w_q rfl rfl fun K1 k1=>?_
 refine Ae rfl (Eb (v:=va) rfl fun k2=>?_)
 refine Bb (a:=uws xs) ra fun ρ2 l2 r2=>?_
 replace ra:=Asa l2 ra
 refine l_A .nilFunc rfl rfl ?_
 apply Ac
 apply k1
 refine w_q rfl rfl fun K3 k3=>?_
 refine Aa rfl (Ic (fn:=.func 118) (caps:=[.tmp 1]) (vs:=[(.pointer (some ⟨k2,0,none⟩))]) ⟨rfl,trivial⟩) ?_
 refine l_A (.func (.func 118) #[] #[(.pointer (some ⟨k2,0,none⟩))]) rfl rfl ?_
 apply Ac
 apply k3
 refine Aq ?_
 refine hret _ _ _ ?_
 refine ⟨l2,rfl,?_⟩
 exact Akq r2
set_option maxRecDepth 100000 in
theorem Ara {k:Nat} {ρ₀:Ro} {vc:Value} (hc:At ρ₀ vc (k:Int)) (hk:k < 64):PredR ρ₀ (.func (.func 87) #[] #[vc]) (fun x:UW=>x.n < 65536) (fun x:UW=>Cu x.n k):=by
 refine ⟨87,_,[vc],rfl,Tryd.func87,rfl,rfl,?_⟩
 intro mn X ρ σ v x hle hD hv
 replace hc:=hc.mono hle
 obtain ⟨s⟩:=x
 obtain rfl:=Qz.1 hv
 simp only at hD
 refine Bh (n:=9) (args:=[(.int .u64 ((s:Int))),vc]) [3] Tryd.func87 rfl rfl rfl rfl fun Q hret hnor=>?_
 refine w_q rfl rfl fun K1 k1=>?_
 refine l_A (.bool (false)) rfl rfl ?_
 apply Ac
 apply k1
 refine w_q rfl rfl fun K2 k2=>?_
 refine l_M (.int .u64 ((s:Int))) rfl rfl ?_
 have ⟨g3a,g3b⟩:=At.rng hc
 refine Aa rfl (Bc ty3 rfl hc) ?_
 refine Aa rfl (Jq (p:=s) (q:=k) rfl rfl rfl (by omega)) ?_
 refine Aa rfl (Na (p:=(s >>> k)) (q:=1) rfl rfl (Ns (by omega))) ?_
 refine Aa rfl (Ek (p:=((((s >>> k) &&& 1):Nat):Int)) (q:=1) rfl rfl) ?_
 refine l_A (.bool (((((s >>> k) &&& 1):Nat):Int) == 1)) rfl rfl ?_
 apply Ac
 apply k2
 refine Aq ?_
 refine hret _ _ _ ?_
 refine ⟨rfl,rfl,Eq.trans (b:=(.bool (((((s >>> k) &&& 1):Nat):Int) == 1))) rfl ?_⟩
 rw [bitA]
set_option maxRecDepth 100000 in
theorem Afg {mn:Bool} {X:Frame→List Frame→Ro→Own→Cy→Prop} {ρ:Ro} {σ:Own} {xs:List Nat} {vi vp:Value} {p:UW→Bool} {q:Nat→Bool} (hi:IterF vi ρ (xs.map (fun x:Nat=>Value.int .u64 (x:Int)))) (hp:PredR ρ vp (fun x:UW=>x.n < 65536) p) (hx:∀ x ∈ xs,x < 65536) (hq:∀ x:Nat,p (UW.mk x) = q x):CallsH (CX mn X) 85 #[vi,vp] ρ σ (fun w ρ' σ'=>ρ' = ρ∧σ' = σ∧w = (iV (Fw q xs))):=by
 refine Oh (n:=20) (args:=[vi,vp]) [4] Tryd.func85 rfl rfl rfl rfl fun Q hret hnor=>?_
 refine w_q rfl rfl fun K1 k1=>?_
 refine Ae rfl (Eb (v:=vp) rfl fun k2=>?_)
 refine Bb (a:=(RawV.mk vp)) (Sl hp.single) fun ρ2 l2 r2=>?_
 replace hi:=IterF.mono l2 hi
 replace hp:=PredR.mono l2 hp
 refine l_A (iV (0)) rfl rfl ?_
 apply Ac
 apply k1
 refine w_q rfl rfl fun K3 k3=>?_
 refine Ae rfl (Ct zr4 fun k4=>?_)
 refine Ae rfl (Ct zr4 fun k5=>?_)
 refine Cx rfl (Cz (j:=1) (v:=(.bool (false))) ⟨_,Ab Tryd.typeInfo4,rfl⟩ rfl rfl rfl rfl (Nat.le_of_ble_eq_true rfl) ?_)
 refine Cx rfl (Cz (j:=0) (v:=(.bool (false))) ⟨_,Ab Tryd.typeInfo4,rfl⟩ rfl rfl rfl rfl (Nat.le_of_ble_eq_true rfl) ?_)
 apply Ac
 apply k3
 refine Ai fun K6 k6=>?_
 refine w_q rfl rfl fun K7 k7=>?_
 refine l_M vi rfl rfl ?_
 apply Ac
 apply k7
 refine Ao ?_
 refine Hr (ys:=(xs).map (fun x:Nat=>Value.int .u64 (x:Int))) (fun pre ρ' τ=>∃ (l1:List Nat) (so:Bool) (no:Bool),pre = l1.map (fun x:Nat=>Value.int .u64 (x:Int))∧((k5,Res.obj (Obj.cells #[(.bool (no))] 4 (0,0))) :: ((k4,Res.obj (Obj.cells #[(.bool (so))] 4 (0,0))) :: σ)) = τ∧(so = l1.any q)∧(no = l1.any (fun x=>!q x))∧True) rfl rfl (Nat.le_of_ble_eq_true rfl) rfl hi ?_ ?_ ?_ ?_
 ·exact fun _ _ _ _ _ h=>h
 ·exact ⟨[],false,false,rfl,rfl,rfl,rfl,trivial⟩
 ·rintro l8_ _ x8 post8 ρ8 _ hys8 l8 ⟨l1,so,no,rfl,rfl,p8_0,p8_1,_⟩ pfx8
  obtain ⟨a8,l2_8,hl8,rfl⟩:=Lu Aqv hys8
  replace hi:=IterF.mono l8 hi
  replace hp:=PredR.mono l8 hp
  replace r2:=Arv l8 r2
  refine Aj (σ':=((k5,Res.obj (Obj.cells #[(.bool (no))] 4 (0,0))) :: ((k4,Res.obj (Obj.cells #[(.bool (so))] 4 (0,0))) :: (pfx8 ++ σ)))) (Arx (by first | exact Fc pfx8 ([(k5,Res.obj (Obj.cells #[(.bool (no))] 4 (0,0))),(k4,Res.obj (Obj.cells #[(.bool (so))] 4 (0,0)))]) σ | simpa only [List.append_assoc,List.cons_append,List.nil_append] using Fc pfx8 ([(k5,Res.obj (Obj.cells #[(.bool (no))] 4 (0,0))),(k4,Res.obj (Obj.cells #[(.bool (so))] 4 (0,0)))]) σ)) ?_
  have hxd:=hx a8 (by rw [hl8]; simp)
  refine Ag rfl rfl ?_
  refine l_A (.int .u64 ((a8:Int))) rfl rfl ?_
  refine Bj (σ':=pfx8 ++ ((k5,Res.obj (Obj.cells #[(.bool (no))] 4 (0,0))) :: ((k4,Res.obj (Obj.cells #[(.bool (so))] 4 (0,0))) :: σ))) (Arx (by first | exact Fc ([(k5,Res.obj (Obj.cells #[(.bool (no))] 4 (0,0))),(k4,Res.obj (Obj.cells #[(.bool (so))] 4 (0,0)))]) pfx8 σ | simpa only [List.append_assoc,List.cons_append,List.nil_append] using Fc ([(k5,Res.obj (Obj.cells #[(.bool (no))] 4 (0,0))),(k4,Res.obj (Obj.cells #[(.bool (so))] 4 (0,0)))]) pfx8 σ)) ?_
  apply Ac
  refine ⟨rfl,rfl,Ary,_,rfl,?_⟩
  intro pfy8
  refine Aj (σ':=((k5,Res.obj (Obj.cells #[(.bool (no))] 4 (0,0))) :: ((k4,Res.obj (Obj.cells #[(.bool (so))] 4 (0,0))) :: (pfy8 ++ σ)))) (Arx (by first | exact Fc pfy8 ([(k5,Res.obj (Obj.cells #[(.bool (no))] 4 (0,0))),(k4,Res.obj (Obj.cells #[(.bool (so))] 4 (0,0)))]) σ | simpa only [List.append_assoc,List.cons_append,List.nil_append] using Fc pfy8 ([(k5,Res.obj (Obj.cells #[(.bool (no))] 4 (0,0))),(k4,Res.obj (Obj.cells #[(.bool (so))] 4 (0,0)))]) σ)) ?_
  refine Ao ?_
  refine w_q rfl rfl fun K9 k9=>?_
  refine Aa rfl (Lb App rfl r2) ?_
  refine l_M (.int .u64 ((a8:Int))) rfl rfl ?_
  refine Ae rfl (Adi (pr:=p) (a:=(UW.mk a8)) (v:=(.int .u64 ((a8:Int)))) hp Ary (by exact hxd) rfl rfl (Qz.2 rfl) ?_)
  apply Ac
  apply k9
  refine As (t:=(p) ((UW.mk a8))) rfl (fun b11=>?_) (fun b11=>?_)
  ·have hqbb11:q a8 = true:=(hq _).symm.trans b11
   refine Ag rfl rfl ?_
   refine Cx rfl (Cz (j:=1) (v:=(.bool (true))) ⟨_,Ab Tryd.typeInfo4,rfl⟩ rfl rfl rfl rfl (Nat.le_of_ble_eq_true rfl) ?_)
   refine Bj (σ':=pfy8 ++ ((k5,Res.obj (Obj.cells #[(.bool (no))] 4 (0,0))) :: ((k4,Res.obj (Obj.cells #[(.bool (true))] 4 (0,0))) :: σ))) (Arx (by first | exact Fc ([(k5,Res.obj (Obj.cells #[(.bool (no))] 4 (0,0))),(k4,Res.obj (Obj.cells #[(.bool (true))] 4 (0,0)))]) pfy8 σ | simpa only [List.append_assoc,List.cons_append,List.nil_append] using Fc ([(k5,Res.obj (Obj.cells #[(.bool (no))] 4 (0,0))),(k4,Res.obj (Obj.cells #[(.bool (true))] 4 (0,0)))]) pfy8 σ)) ?_
   apply Ac
   refine ⟨rfl,Ary,_,rfl,l1 ++ [a8],(true),(no),(by simp),rfl,(by rw [any_app,← p8_0,hqbb11]; simp),(by rw [any_app,← p8_1,hqbb11]; simp),trivial⟩
  have hqbb11:q a8 = false:=(hq _).symm.trans b11
  refine Ag rfl rfl ?_
  refine Cx rfl (Cz (j:=0) (v:=(.bool (true))) ⟨_,Ab Tryd.typeInfo4,rfl⟩ rfl rfl rfl rfl (Nat.le_of_ble_eq_true rfl) ?_)
  refine Bj (σ':=pfy8 ++ ((k5,Res.obj (Obj.cells #[(.bool (true))] 4 (0,0))) :: ((k4,Res.obj (Obj.cells #[(.bool (so))] 4 (0,0))) :: σ))) (Arx (by first | exact Fc ([(k5,Res.obj (Obj.cells #[(.bool (true))] 4 (0,0))),(k4,Res.obj (Obj.cells #[(.bool (so))] 4 (0,0)))]) pfy8 σ | simpa only [List.append_assoc,List.cons_append,List.nil_append] using Fc ([(k5,Res.obj (Obj.cells #[(.bool (true))] 4 (0,0))),(k4,Res.obj (Obj.cells #[(.bool (so))] 4 (0,0)))]) pfy8 σ)) ?_
  apply Ac
  refine ⟨rfl,Ary,_,rfl,l1 ++ [a8],(so),(true),(by simp),rfl,(by rw [any_app,← p8_0,hqbb11]; simp),(by rw [any_app,← p8_1,hqbb11]; simp),trivial⟩
 ·rintro k12 ρ12 _ l12 ⟨l1,so,no,hpre12,rfl,p8_0,p8_1,_⟩
  obtain rfl:=Nf Aqv hpre12
  replace hi:=IterF.mono l12 hi
  replace hp:=PredR.mono l12 hp
  replace r2:=Arv l12 r2
  apply k6
  refine Ai fun K13 k13=>?_
  refine Ao ?_
  refine w_q rfl rfl fun K14 k14=>?_
  refine Ae rfl (Dt (i:=2) (v:=(.bool (so))) ⟨_,Tryd.underlying4,rfl⟩ rfl rfl rfl ?_)
  refine l_M (.bool (so)) rfl rfl ?_
  refine Cn (so) (fun b15=>?_) (fun b15=>?_)
  ·refine Ae (Ar rfl rfl rfl b15) (Dt (i:=1) (v:=(.bool (no))) ⟨_,Tryd.underlying4,rfl⟩ rfl rfl rfl ?_)
   refine Aa rfl (Bt rfl b15 (v:=(.bool (no))) rfl) ?_
   refine l_A (.bool (no)) rfl rfl ?_
   apply Ac
   apply k14
   refine As (t:=no) rfl (fun b16=>?_) (fun b16=>?_)
   ·refine w_q rfl rfl fun K17 k17=>?_
    refine l_A (iV (0)) rfl rfl ?_
    apply Ac
    apply k17
    refine Aj (σ':=((k5,Res.obj (Obj.cells #[(.bool (no))] 4 (0,0))) :: ((k12,Res.obj (Obj.deferred (some []))) :: ((k4,Res.obj (Obj.cells #[(.bool (so))] 4 (0,0))) :: σ)))) (Arx (List.perm_append_comm_assoc ([(k12,Res.obj (Obj.deferred (some [])))]) ([(k5,Res.obj (Obj.cells #[(.bool (no))] 4 (0,0)))]) _)) ?_
    refine Aj Ghost.drop ?_
    refine Aj (σ':=((k4,Res.obj (Obj.cells #[(.bool (so))] 4 (0,0))) :: ((k12,Res.obj (Obj.deferred (some []))) :: σ))) (Arx (List.perm_append_comm_assoc ([(k12,Res.obj (Obj.deferred (some [])))]) ([(k4,Res.obj (Obj.cells #[(.bool (so))] 4 (0,0)))]) _)) ?_
    refine Aj Ghost.drop ?_
    refine Aj (Arw (Arz l2 l12)) ?_
    refine Aq ?_
    refine hret _ _ _ _ ?_
    refine ⟨rfl,rfl,Eq.trans (b:=(iV (0))) rfl ?_⟩
    rw [Fw,← p8_0,← p8_1]; simp [b15,b16]
   refine w_q rfl rfl fun K18 k18=>?_
   refine Ae rfl (Dt (i:=2) (v:=(.bool (so))) ⟨_,Tryd.underlying4,rfl⟩ rfl rfl rfl ?_)
   refine l_A (.bool (so)) rfl rfl ?_
   apply Ac
   apply k18
   refine Co rfl b15 ?_
   refine w_q rfl rfl fun K19 k19=>?_
   refine l_A (iV (1)) rfl rfl ?_
   apply Ac
   apply k19
   refine Aj (σ':=((k5,Res.obj (Obj.cells #[(.bool (no))] 4 (0,0))) :: ((k12,Res.obj (Obj.deferred (some []))) :: ((k4,Res.obj (Obj.cells #[(.bool (so))] 4 (0,0))) :: σ)))) (Arx (List.perm_append_comm_assoc ([(k12,Res.obj (Obj.deferred (some [])))]) ([(k5,Res.obj (Obj.cells #[(.bool (no))] 4 (0,0)))]) _)) ?_
   refine Aj Ghost.drop ?_
   refine Aj (σ':=((k4,Res.obj (Obj.cells #[(.bool (so))] 4 (0,0))) :: ((k12,Res.obj (Obj.deferred (some []))) :: σ))) (Arx (List.perm_append_comm_assoc ([(k12,Res.obj (Obj.deferred (some [])))]) ([(k4,Res.obj (Obj.cells #[(.bool (so))] 4 (0,0)))]) _)) ?_
   refine Aj Ghost.drop ?_
   refine Aj (Arw (Arz l2 l12)) ?_
   refine Aq ?_
   refine hret _ _ _ _ ?_
   refine ⟨rfl,rfl,Eq.trans (b:=(iV (1))) rfl ?_⟩
   rw [Fw,← p8_0,← p8_1]; simp [b15,b16]
  refine Ap (Bl rfl rfl rfl b15) ?_
  refine Aa rfl (Bm rfl b15 (v:=(.bool (false))) rfl) ?_
  refine l_A (.bool (false)) rfl rfl ?_
  apply Ac
  apply k14
  refine Cg rfl rfl ?_
  refine w_q rfl rfl fun K20 k20=>?_
  refine Ae rfl (Dt (i:=2) (v:=(.bool (so))) ⟨_,Tryd.underlying4,rfl⟩ rfl rfl rfl ?_)
  refine l_A (.bool (so)) rfl rfl ?_
  apply Ac
  apply k20
  refine Cg rfl b15 ?_
  refine Al ?_
  apply k13
  refine w_q rfl rfl fun K21 k21=>?_
  refine l_A (iV (2)) rfl rfl ?_
  apply Ac
  apply k21
  refine Aj (σ':=((k5,Res.obj (Obj.cells #[(.bool (no))] 4 (0,0))) :: ((k12,Res.obj (Obj.deferred (some []))) :: ((k4,Res.obj (Obj.cells #[(.bool (so))] 4 (0,0))) :: σ)))) (Arx (List.perm_append_comm_assoc ([(k12,Res.obj (Obj.deferred (some [])))]) ([(k5,Res.obj (Obj.cells #[(.bool (no))] 4 (0,0)))]) _)) ?_
  refine Aj Ghost.drop ?_
  refine Aj (σ':=((k4,Res.obj (Obj.cells #[(.bool (so))] 4 (0,0))) :: ((k12,Res.obj (Obj.deferred (some []))) :: σ))) (Arx (List.perm_append_comm_assoc ([(k12,Res.obj (Obj.deferred (some [])))]) ([(k4,Res.obj (Obj.cells #[(.bool (so))] 4 (0,0)))]) _)) ?_
  refine Aj Ghost.drop ?_
  refine Aj (Arw (Arz l2 l12)) ?_
  refine Aq ?_
  refine hret _ _ _ _ ?_
  refine ⟨rfl,rfl,Eq.trans (b:=(iV (2))) rfl ?_⟩
  rw [Fw,← p8_0,← p8_1]; simp [b15]
end Go.Proofs.YtoefdnbaklajeaaDoor

namespace Go.Proofs.YtoefdnbaklajeaaDoor
open Go Go.Conc
section
variable {P:Program} {c:Nat} {fr fr':Frame} {cs cs':List Frame} {ρ:Ro} {σ:Own} {vs:List Value}
theorem Fa (h:∀ W,stepG P false (Conc.G fr cs) W = .go (Conc.G fr' cs') W #[]) (hk:SendI P c vs fr' cs' ρ σ):SendI P c vs fr cs ρ σ :=
  .step (fun a b c=>a = fr'∧b = cs'∧c = σ) (fun W hs=>⟨fr',cs',W,#[],σ,h W,.refl hs,by simp,rfl,rfl,rfl⟩) (by rintro _ _ _ ⟨rfl,rfl,rfl⟩; exact hk)
end
abbrev Adx:=List Value→Hv
/-- A piece of a sender's code: from here these values are still to be sent. -/
def WpV (P:Program) (c:Nat) (b:FB) (n:Nat) (code:Code) (Q:Adx) (vs:List Value) (e:Env) (ds:List Deferred) (ρ:Ro) (σ:Own):Prop :=
  ∀ tm k cs,EnvOf n tm e→(∀ ex vs' tm' e' ds' ρ' σ' todo,EnvOf n tm' e'→Q vs' ex e' ds' ρ' σ'→Qs ex k todo→SendI P c vs' (Fr b tm' ds' todo) cs ρ' σ')→SendI P c vs (Fr b tm ds (.code code :: k)) cs ρ σ
section
variable {P:Program} {c:Nat} {b:FB} {n:Nat} {Q:Adx} {vs:List Value} {e:Env} {ds:List Deferred} {ρ ρ':Ro} {σ σ':Own}
theorem Ol {code:Code} (h:WpC (Wa P) b n code (Q vs) e ds ρ σ):WpV P c b n code Q vs e ds ρ σ:=fun tm k cs ht hk =>
  SendI.of_goes (h tm k cs ht) (by rintro _ _ _ _ ⟨rfl,ex,tm',e',ds',todo,h1,h2,h3,rfl⟩; exact hk _ _ _ _ _ _ _ _ h1 h2 h3)
theorem Nd {x y:Code} (h:∀ K:List Value→Env→List Deferred→Ro→Own→Prop,(∀ vs e ds ρ σ,WpV P c b n y Q vs e ds ρ σ→K vs e ds ρ σ)→WpV P c b n x (fun vs=>Aaa (K vs) (Q vs)) vs e ds ρ σ):WpV P c b n (.seq x y) Q vs e ds ρ σ:=by
  intro tm k cs ht hk
  refine Fa (fr':=Fr b tm ds (.code x :: .code y :: k)) (cs':=cs) (fun W=>by simp [Conc.G,stepG,stepG.exec,Fr]) ?_
  refine h (fun vs e ds ρ σ=>WpV P c b n y Q vs e ds ρ σ) (fun _ _ _ _ _ h=>h) tm (.code y :: k) cs ht fun ex vs' tm' e' ds' ρ' σ' todo h1 h2 h3=>?_
  cases ex with
  | normal=>cases h3; exact h2 tm' k cs h1 hk
  | exit id=>exact hk _ _ _ _ _ _ _ _ h1 h2 (Hg (by simp) (fun _=>rfl) h3)
  | ret=>exact hk _ _ _ _ _ _ _ _ h1 h2 (Hg (by simp) (fun _=>rfl) h3)
theorem Adb {q:Operand} {x y:Code} {t:Bool} (hc:Af e q = .bool t) (h1:t = true→WpV P c b n x Q vs e ds ρ σ) (h0:t = false→WpV P c b n y Q vs e ds ρ σ):WpV P c b n (.cond q x y) Q vs e ds ρ σ:=by
  intro tm k cs ht hk
  have hev:(Fr b tm ds (.code (.cond q x y) :: k)).eval q = .bool t:=by rw [ht.eval]; exact hc
  refine Fa (fr':=Fr b tm ds (.code (if t then x else y) :: k)) (cs':=cs) (fun W=>?_) ?_
  · simp only [Fr] at hev
    simp [Conc.G,stepG,stepG.exec,Fr,hev]
  · cases t with
    | true=>exact h1 rfl tm k cs ht hk
    | false=>exact h0 rfl tm k cs ht hk
theorem Adp (h:Q vs .normal e ds ρ σ):WpV P c b n .skip Q vs e ds ρ σ:=Ol (Al h)
theorem Alu {id:Nat} (h:Q vs (.exit id) e ds ρ σ):WpV P c b n (.exit id) Q vs e ds ρ σ:=Ol (Bx h)
theorem Yh {id:Nat} {x:Code} (h:WpV P c b n x (fun vs=>Qt id (Q vs)) vs e ds ρ σ):WpV P c b n (.block id x) Q vs e ds ρ σ:=by
  intro tm k cs ht hk
  refine Fa (fr':=Fr b tm ds (.code x :: .inBlock id :: k)) (cs':=cs) (fun W=>by simp [Conc.G,stepG,stepG.exec,Fr]) ?_
  refine h tm (.inBlock id :: k) cs ht fun ex vs' tm' e' ds' ρ' σ' todo h1 h2 h3=>?_
  cases ex with
  | normal =>
    cases h3
    exact Fa (fr':=Fr b tm' ds' k) (fun W=>by simp [Conc.G,stepG,stepG.exec,Fr]) (hk .normal _ _ _ _ _ _ _ h1 h2 rfl)
  | exit id' =>
    obtain ⟨pre,hp,rfl⟩:=h3
    by_cases hid:id' = id
    · subst hid
      simp only [Qt,if_true] at h2
      refine Fa (fr':=Fr b tm' ds' k) (fun W=>?_) (hk .normal _ _ _ _ _ _ _ h1 h2 rfl)
      have:exitTo id' (pre ++ .inBlock id' :: k) = some k:=by rw [Ml hp]; simp [exitTo]
      simp [Conc.G,stepG,stepG.exec,Fr,this]
    · simp only [Qt,hid,if_false] at h2
      refine hk (.exit id') _ _ _ _ _ _ _ h1 h2 ⟨pre ++ [.inBlock id],fun y hy=>?_,by simp⟩
      rcases List.mem_append.1 hy with hy | hy
      · exact hp y hy
      · rw [List.mem_singleton.1 hy]; simp [Wl,Ne.symm hid]
  | ret =>
    obtain ⟨pre,rfl⟩:=h3
    exact hk .ret _ _ _ _ _ _ _ h1 h2 ⟨pre ++ [.inBlock id],by simp⟩
theorem Alx {x:Code} (I:Nat→List Value→Env→List Deferred→Ro→Own→Prop) {m:Nat} (h₀:I m vs e ds ρ σ)
    (round:∀ m vs e ds ρ σ,I m vs e ds ρ σ→WpV P c b n x (fun vs=>Aaa (fun e' ds' ρ' σ'=>∃ m',m' < m∧I m' vs e' ds' ρ' σ') (Q vs)) vs e ds ρ σ):WpV P c b n (.loop x) Q vs e ds ρ σ:=by
  intro tm k cs ht hk
  refine Fa (fr':=Fr b tm ds (.code x :: .inLoop x :: k)) (cs':=cs) (fun W=>by simp [Conc.G,stepG,stepG.exec,Fr]) ?_
  induction m using Nat.strongRecOn generalizing tm vs e ds ρ σ with
  | _ m ih =>
    refine round m vs e ds ρ σ h₀ tm (.inLoop x :: k) cs ht fun ex vs' tm' e' ds' ρ' σ' todo h1 h2 h3=>?_
    cases ex with
    | normal =>
      cases h3
      obtain ⟨m',hlt,hI⟩:=h2
      exact Fa (fr':=Fr b tm' ds' (.code x :: .inLoop x :: k)) (fun W=>by simp [Conc.G,stepG,stepG.exec,Fr]) (ih m' hlt hI tm' h1)
    | exit id=>exact hk _ _ _ _ _ _ _ _ h1 h2 (Hg (by simp) (fun _=>rfl) h3)
    | ret=>exact hk _ _ _ _ _ _ _ _ h1 h2 (Hg (by simp) (fun _=>rfl) h3)
end
end Go.Proofs.YtoefdnbaklajeaaDoor

namespace Go.Proofs.YtoefdnbaklajeaaDoor
open Go Go.Conc
/-- The goroutine's own first frame,when its call has been taken. -/
def Gf (P:Program):Frame:={ (default:Frame) with fn:=P.funcs.size,defers:=[],mode:=.panicking [goexitEntry] }
theorem Abv {P:Program} {f:FuncId} {fn:Func} {args:Array Value} (hf:P.funcs[f]? = some fn) (hn:(fn.name == "runtime.NumGoroutine") = false) (hb:fn.body.isNone = false) (W:World) :
    (invoke (.fn (.func f) #[]) args).runT P W #[] = (.ok (.enter f args) W,#[]):=by
  show (callFunc f (args ++ #[])).runT P W #[] = _
  rw [Array.append_empty]
  show (program.bind _:Sem Next).runT P W #[] = _
  rw [Sem.runT_bind']
  show Sem.runT P (match P.funcs[f]? with | none=>_ | some fn=>_) W #[] = _
  rw [hf]
  simp only [hn,hb]
  rfl
theorem Aav {P:Program} {c:Nat} {ρ:Ro} {vs:List Value} {f:FuncId} {fn:Func} {args:Array Value} (hf:P.funcs[f]? = some fn) (hn:(fn.name == "runtime.NumGoroutine") = false) (hb:fn.body.isNone = false)
    (h:SendI P c vs (Frame.enter P f args .deferred) [Gf P] ρ []):SendI P c vs (Gi P { target:=.fn (.func f) #[],args:=args }) [] ρ []:=by
  refine Fa (fun W=>?_) h
  have hr:=Abv (args:=args) hf hn hb W
  simp [Conc.G,stepG,Gi,unwind,callDeferred,-Sem.runT_eq,hr,GStep.after,seen,Gf]
/-- What has been deferred: the close. -/
def Lp (c:Nat) (tys:Array TypeId) (ty:TypeId) (cn:Array Bool):Deferred:={ target:=.builtin .close tys ty cn,args:=#[.chan (some c)] }
theorem Aga {P:Program} {c:Nat} {tys:Array TypeId} {ty:TypeId} {cn:Array Bool} {W:World} {s r:Nat} {tm:Bool} (h:W.heap[c]? = some (.chan 0 #[] false s r tm)) :
    (invoke (.builtin .close tys ty cn) #[.chan (some c)]).runT P W #[] = (.ok (.value (.tuple #[])) (W.setChan c 0 #[] true s r tm),#[⟨.obj c,false,true⟩,⟨.obj c,true,true⟩]):=by
  have e1:(Builtin.close_ tys ty #[.chan (some c)]).runT P W #[] = (.ok (.tuple #[]) (W.setChan c 0 #[] true s r tm),#[⟨.obj c,false,true⟩,⟨.obj c,true,true⟩]):=by
    show Sem.runT P (Sem.getObj c fun o=>Sem.bind (Sem.pure o) _) W #[] = _
    rw [Sem.runT]
    simp only [h]
    show Sem.runT P (Sem.setObj c (.chan 0 #[] true s r tm) (Sem.pure (Value.tuple #[]))) W _ = _
    rw [Sem.runT]
    simp only [h]
    rfl
  show ((Builtin.close_ tys ty #[.chan (some c)]).bind fun v=>Sem.pure (Next.value v)).runT P W #[] = _
  rw [Sem.runT_bind',e1]
  rfl
/-- It leaves a function that yields nothing,and closes what was deferred. -/
theorem Alf {P:Program} {c:Nat} {b:FB} {tm:Array Value} {todo:List Item} {fn:Func} {tys:Array TypeId} {ty:TypeId} {cn:Array Bool} (hf:P.funcs[b.fn]? = some fn) (hk:b.kind = .deferred) (hr:fn.results = #[]) :
    Acm P c { Fr b tm [Lp c tys ty cn] todo with mode:=.returning } [Gf P]:=by
  refine ⟨rfl,2,Conc.G { Fr b tm [] todo with mode:=.returning } [Gf P],?_,fun W s r tm' hc=>?_⟩
  · refine .inr ⟨rfl,Conc.G (Gf P) [],fun w=>?_,.inr ⟨rfl,{ Conc.G (Gf P) [] with status:=.finished },fun w=>?_,(rfl:GoStatus.finished = GoStatus.finished)⟩⟩
    · have hrs:(results fn tm).runT P w #[] = (.ok (.tuple #[]) w,#[]):=by
        unfold results; rw [hr,Array.mapM_eq_foldlM]; rfl
      simp [Conc.G,stepG,Fr,unwind,hf,-Sem.runT_eq,hrs,doReturn,hk,GStep.after,Gf,goexitEntry,seen]
    · have hc:Frame.catches P (Gf P) = false:=by
        unfold Frame.catches Gf
        cases P.funcs[P.funcs.size]? <;> rfl
      simp only [Gf,goexitEntry] at hc
      simp [Conc.G,stepG,Gf,unwind,goexitEntry,hc]
  · have h1:=Aga (P:=P) (tys:=tys) (ty:=ty) (cn:=cn) hc
    simp [Conc.G,stepG,Fr,unwind,Lp,callDeferred,-Sem.runT_eq,h1,GStep.after,seen]
section
variable {P:Program} {c:Nat} {b:FB} {n:Nat} {l₀ rest:List Oper} {Q:List Value→Env→List Deferred→Ro→Own→Prop} {vs:List Value} {e:Env} {ds:List Deferred} {ρ:Ro} {σ:Own}
/-- The operations of a sender's region. -/
def Aer (P:Program) (c:Nat) (b:FB) (n:Nat) (l₀ rest:List Oper) (Q:List Value→Env→List Deferred→Ro→Own→Prop) (vs:List Value) (e:Env) (ds:List Deferred) (ρ:Ro) (σ:Own):Prop :=
  ∀ pre,l₀ = pre ++ rest→Fu n l₀.toArray = true→b.kind ≠ .early→∀ tm k cs,EnvOf n tm e→(∀ vs' tm' e' ds' ρ' σ',EnvOf n tm' e'→Q vs' e' ds' ρ' σ'→SendI P c vs' (Fr b tm' ds' k) cs ρ' σ') →
    SendI P c vs (Fr b tm ds (.inRegion l₀.toArray (List.range' pre.length rest.length) :: k)) cs ρ σ
theorem Aam {id:Nat} {Q:Adx} (hs:Fu n l₀.toArray = true) (hk:b.kind ≠ .early) (h:Aer P c b n l₀ l₀ (fun vs=>(Q vs) .normal) vs e ds ρ σ):WpV P c b n (.region id l₀.toArray false) Q vs e ds ρ σ:=by
  intro tm k cs ht hq
  refine Fa (fr':=Fr b tm ds (.inRegion l₀.toArray (List.range l₀.toArray.size) :: k)) (cs':=cs) (fun W=>by simp [Conc.G,stepG,stepG.exec,Fr]) ?_
  have h1:=h [] rfl hs hk tm k cs ht fun vs' tm' e' ds' ρ' σ' h1 h2=>hq .normal _ _ _ _ _ _ _ h1 h2 rfl
  rw [List.size_toArray,List.range_eq_range']
  exact h1
theorem Aqc (h:Q vs e ds ρ σ):Aer P c b n l₀ [] Q vs e ds ρ σ:=by
  intro pre _ _ _ tm k cs ht hq
  exact Fa (fr':=Fr b tm ds k) (cs':=cs) (fun W=>by simp [Conc.G,stepG,stepG.exec,Fr]) (hq vs tm e ds ρ σ ht h)
theorem Amt {d:Nat} {op:Op} {ty:TypeId} {pos:String} {af:Array Edge} {g:Option (Nat × Bool)} {v:Value} (hw:Bz l₀.toArray ⟨some d,op,ty,pos,af,g⟩ e = true) (hnd:∀ c,op ≠ .defer c) (hy:Yld P ρ e op ty v) (h:Aer P c b n l₀ rest Q vs (upd e d v) ds ρ σ) :
    Aer P c b n l₀ (⟨some d,op,ty,pos,af,g⟩ :: rest) Q vs e ds ρ σ:=by
  intro pre hpre hs hk tm k cs ht hq
  have ho:l₀.toArray[pre.length]? = some ⟨some d,op,ty,pos,af,g⟩:=by subst hpre; simp
  rw [List.length_cons,List.range'_succ]
  have hrest:=h (pre ++ [⟨some d,op,ty,pos,af,g⟩]) (by rw [hpre]; simp) hs hk
  rw [List.length_append,List.length_singleton] at hrest
  have hev:=ht.eval b ds (.inRegion l₀.toArray (pre.length :: List.range' (pre.length + 1) rest.length) :: k)
  refine .step (fun fr' cs' σ'=>fr' = (Fr b tm ds (.inRegion l₀.toArray (pre.length :: List.range' (pre.length + 1) rest.length) :: k)).finish v∧cs' = cs∧σ' = σ) (fun W hsat=>?_) ?_
  · obtain ⟨nx,σ',W',es,h1,h2,h3,h4⟩:=Rp _ σ _ W #[] (hy ρ σ (some d) pos af g fun _ _ h=>h) hsat
    obtain ⟨rfl,rfl⟩:=h2
    obtain ⟨fr',cs',es',h5,⟨hfr,hcs⟩,h7⟩:=Ss (fr:=Fr b tm ds (.inRegion l₀.toArray (pre.length :: List.range' (pre.length + 1) rest.length) :: k)) (cs:=cs) (s:=execOp (Af e) ⟨some d,op,ty,pos,af,g⟩) (by exact hk) (by simp [Fr]) h1 ⟨_,_,rfl,rfl⟩
    replace hcs:=hcs.symm; replace hfr:=hfr.symm; subst hcs hfr
    refine ⟨_,_,W',es',_,?_,h3,fun ev he=>(h4 ev (h7 ev he)).resolve_left (by simp),rfl,rfl,rfl⟩
    have hst:=Nl (C:=Wa P) (b:=b) (ds:=ds) (tm:=tm) (k:=k) (cs:=cs) (rest:=List.range' (pre.length + 1) rest.length) ho (by rw [Ij hs ht]; exact hw) (fun c' h'=>absurd h' (hnd c')) W
    refine hst.trans ?_
    rw [hev]
    exact h5
  · rintro _ _ _ ⟨rfl,rfl,rfl⟩
    rw [Lc ho]
    exact hrest _ k _ (Ji hs ht ho v) hq
theorem Ani {x y:Operand} {ty:TypeId} {pos:String} {af:Array Edge} {g:Option (Nat × Bool)} {v:Value} (hw:Bz l₀.toArray ⟨none,.send x y,ty,pos,af,g⟩ e = true) (hx:Af e x = .chan (some c)) (hy:Af e y = v) (h:Aer P c b n l₀ rest Q vs e ds ρ σ) :
    Aer P c b n l₀ (⟨none,.send x y,ty,pos,af,g⟩ :: rest) Q (v :: vs) e ds ρ σ:=by
  intro pre hpre hs hk tm k cs ht hq
  have ho:l₀.toArray[pre.length]? = some ⟨none,.send x y,ty,pos,af,g⟩:=by subst hpre; simp
  rw [List.length_cons,List.range'_succ]
  have hrest:=h (pre ++ [⟨none,.send x y,ty,pos,af,g⟩]) (by rw [hpre]; simp) hs hk
  rw [List.length_append,List.length_singleton] at hrest
  have hev:=ht.eval b ds (.inRegion l₀.toArray (pre.length :: List.range' (pre.length + 1) rest.length) :: k)
  refine .send (z:=.tuple #[]) (fun W=>?_) ?_
  · have hst:=Nl (C:=Wa P) (b:=b) (ds:=ds) (tm:=tm) (k:=k) (cs:=cs) (rest:=List.range' (pre.length + 1) rest.length) ho (by rw [Ij hs ht]; exact hw) (fun c' h'=>by cases h') W
    refine hst.trans ?_
    rw [hev]
    have hk':(b.kind == CallKind.early) = false:=by cases hb:b.kind <;> simp_all <;> rfl
    have hr:(execOp (Af e) ⟨none,.send x y,ty,pos,af,g⟩).runT P W #[] = (.ok (.comm #[scase c v (.tuple #[])] true .send) W,#[]):=by
      show (Sem.pure (Next.comm #[{ chan:=Af e x,send:=some (Af e y),zero:=.tuple #[] }] true .send)).runT P W #[] = _
      rw [hx,hy]; rfl
    simp only [Wa] at *
    simp [stepG.apply,-Sem.runT_eq,hr,hk',GStep.after,Conc.G,Fr,seen]
  · rw [Lc ho]
    exact hrest tm k _ ht hq
end
section
variable {C:Ctx} {e:Env} {ds:List Deferred} {ρ:Ro} {σ:Own} {K:Value→List Deferred→Ro→Own→Prop} {dd:Option Tmp}
theorem Wu {ty:TypeId} {pos:String} {af:Array Edge} {g:Option (Nat × Bool)} {x:Operand} {tys:Array TypeId} {c t:Nat} (hxt:x = .tmp t) (hx:Af e x = .chan (some c)) (h:K undef (Lp c tys ty #[false] :: ds) ρ σ) :
    wpS C.P ρ (execOp (Af e) ⟨dd,.defer ⟨.builtin .close,#[x],tys⟩,ty,pos,af,g⟩) σ (NextH C K none ds ρ):=by
  subst hxt
  have e1:execOp (Af e) ⟨dd,.defer ⟨.builtin .close,#[.tmp t],tys⟩,ty,pos,af,g⟩ = Sem.pure (Next.defer { target:=.builtin .close tys ty #[false],args:=#[Af e (.tmp t)] }):=by
    show ((resolve (Af e) ⟨.builtin .close,#[.tmp t],tys⟩ ty).bind fun d=>Sem.pure (Next.defer d)) = _
    simp [resolve,Sem.bind,pure]
  rw [e1,hx]
  exact ⟨rfl,h⟩
end
theorem Aky {P:Program} {c:Nat} {f:FuncId} {fn:Func} {code:Code} {n:Nat} {args vs:List Value} {ρ:Ro} {tys:Array TypeId} {ty:TypeId} {cn:Array Bool} (hf:P.funcs[f]? = some fn) (hc:fn.body = some code) (hn:fn.ntmps = n) (hr:fn.results = #[]) (ha:Nat.ble args.length n = true) (hnm:(fn.name == "runtime.NumGoroutine") = false) (hb:fn.body.isNone = false)
    (h:∀ Q:Adx,(∀ e ρ' σ',Q [] .ret e [Lp c tys ty cn] ρ' σ')→(∀ e ρ' σ',Q [] .normal e [Lp c tys ty cn] ρ' σ')→WpV P c ⟨f,.deferred,none⟩ n code Q vs (Qb args) [] ρ []) :
    SendI P c vs (Gi P { target:=.fn (.func f) #[],args:=args.toArray }) [] ρ []:=by
  refine Aav hf hnm hb ?_
  have e1:Frame.enter P f args.toArray .deferred = Fr ⟨f,.deferred,none⟩ (args.toArray ++ Array.replicate (n - args.toArray.size) undef) [] [.code code]:=by
    simp [Frame.enter,hf,hc,hn,Fr]
  rw [e1]
  refine h (fun vs ex _ ds _ _=>vs = []∧(∀ id,ex ≠ .exit id)∧ds = [Lp c tys ty cn]) (fun _ _ _=>⟨rfl,fun id h=>(by cases h),rfl⟩) (fun _ _ _=>⟨rfl,fun id h=>(by cases h),rfl⟩) _ [] [Gf P] (Uj (Nat.le_of_ble_eq_true ha)) ?_
  rintro ex vs' tm' e' ds' ρ' σ' todo h1 ⟨rfl,h2,rfl⟩ h3
  have fin:∀ todo,SendI P c [] { Fr ⟨f,.deferred,none⟩ tm' [Lp c tys ty cn] todo with mode:=.returning } [Gf P] ρ' σ':=fun todo=>.close (Alf (b:=⟨f,.deferred,none⟩) hf rfl hr)
  cases ex with
  | normal =>
    cases h3
    exact Fa (fr':={ Fr ⟨f,.deferred,none⟩ tm' [Lp c tys ty cn] [] with mode:=.returning }) (fun W=>by simp [Conc.G,stepG,stepG.exec,Fr]) (fin _)
  | exit id=>exact absurd rfl (h2 id)
  | ret =>
    obtain ⟨pre,rfl⟩:=h3
    exact Fa (fr':={ Fr ⟨f,.deferred,none⟩ tm' [Lp c tys ty cn] (.code .ret :: (pre ++ [])) with mode:=.returning }) (fun W=>by simp [Conc.G,stepG,stepG.exec,Fr]) (fin _)
end Go.Proofs.YtoefdnbaklajeaaDoor

namespace Go.Proofs.YtoefdnbaklajeaaDoor
open Go Go.Conc
def Ajs:Nat→List (List Bool)
  | 0=>[[]]
  | k + 1=>(Ajs k).flatMap fun l=>[true :: l,false :: l]
theorem Zv:∀ (l:List Bool),l ∈ Ajs l.length
  | []=>by simp [Ajs]
  | b :: l=>by
    rw [List.length_cons,Ajs,List.mem_flatMap]
    exact ⟨l,Zv l,by cases b <;> simp⟩
def Mg (ops:List Oper) (l:List Bool):Bool:=(List.range ops.length).all fun i=>!l.getD i false || (match ops[i]? with | some o=>o.after.all (fun e=>!Region.binds .any e || l.getD e.on false) | none=>true)
/-- The last one comes when all others have come. -/
def Ams (ops' ops:List Oper):Bool:=(Ajs ops'.length).all fun l=>!Mg ops' l || (decide (Dk ops (l ++ [false]) = if Dk ops' l = [] then [ops'.length] else Dk ops' l) && (decide (Dk ops' l ≠ []) || decide (Dk ops (l ++ [true]) = [])) && (Dk ops' l).all fun i=>Mg ops' (l.set i true))
def Acv (l:List Oper):Bool:=l.all fun o=>o.guard.isNone
section
variable {C:Ctx} {b:FB} {n:Nat} {l':List Oper} {oL:Oper} {Q Q':Env→List Deferred→Ro→Own→Prop} {pz:List Nat} {S:Ro→Own→Prop}
theorem Abm (hs:Fu n (l' ++ [oL]).toArray = true) (hk:b.kind ≠ .early) (hg:Acv l' = true) (hc:Ams l' (l' ++ [oL]) = true) (hQ:∀ e ds ρ σ,Q' e ds ρ σ→Lz C b n (l' ++ [oL]).toArray [l'.length] Q e ds ρ σ) :
    ∀ (fuel t:Nat) (l:List Bool) (e:Env) (ds:List Deferred) (ρ:Ro) (σ:Own),l.length = l'.length→Mg l' l = true→El C b l'.toArray Q' pz S fuel l.toArray e ds ρ σ →
    Lz C b n (l' ++ [oL]).toArray (Region.linearise.go .any (l' ++ [oL]).toArray (fuel + 1) t (l ++ [false]).toArray []) Q e ds ρ σ:=by
  have spec:∀ l:List Bool,l.length = l'.length→Mg l' l = true→Dk (l' ++ [oL]) (l ++ [false]) = (if Dk l' l = [] then [l'.length] else Dk l' l)∧(Dk l' l = []→Dk (l' ++ [oL]) (l ++ [true]) = [])∧∀ i ∈ Dk l' l,Mg l' (l.set i true) = true:=fun l hl hcl=>by
    have h1:=List.all_eq_true.1 hc l (hl ▸ Zv l)
    rw [hcl] at h1
    simp only [Bool.not_true,Bool.false_or,Bool.and_eq_true,Bool.or_eq_true,decide_eq_true_eq,List.all_eq_true] at h1
    exact ⟨h1.1.1,fun h=>h1.1.2.resolve_left fun h'=>h' h,h1.2⟩
  have rd:∀ (l:List Oper) (li:List Bool),Region.ready .any l.toArray li.toArray = Dk l li:=Hf
  -- only the last one is left
  have fin:∀ (fuel t:Nat) (l:List Bool) (e:Env) (ds:List Deferred) (ρ:Ro) (σ:Own),l.length = l'.length→Mg l' l = true→Dk l' l = []→Q' e ds ρ σ →
      Lz C b n (l' ++ [oL]).toArray (Region.linearise.go .any (l' ++ [oL]).toArray (fuel + 1) t (l ++ [false]).toArray []) Q e ds ρ σ:=by
    intro fuel t l e ds ρ σ hl hcl hr hq
    obtain ⟨h1,h2,_⟩:=spec l hl hcl
    rw [if_pos hr] at h1
    have e1:Region.linearise.go .any (l' ++ [oL]).toArray (fuel + 1) t (l ++ [false]).toArray [] = [l'.length]:=by
      simp only [Region.linearise.go]
      change (match (Region.ready .any (l' ++ [oL]).toArray (l ++ [false]).toArray)[t % (Region.ready .any (l' ++ [oL]).toArray (l ++ [false]).toArray).length]? with
        | some i=>Region.linearise.go .any (l' ++ [oL]).toArray fuel (t / (Region.ready .any (l' ++ [oL]).toArray (l ++ [false]).toArray).length) ((l ++ [false]).toArray.setIfInBounds i true) [i]
        | none=>[].reverse) = _
      rw [rd,h1]
      simp only [List.length_singleton,Nat.mod_one,List.getElem?_cons_zero]
      rw [linearise_go_acc]
      have e2:(l ++ [false]).toArray.setIfInBounds l'.length true = (l ++ [true]).toArray:=by
        rw [← hl]; simp
      rw [e2]
      cases fuel with
      | zero=>simp [Region.linearise.go]
      | succ fuel =>
        simp only [Region.linearise.go]
        have e3:Region.ready .any (l' ++ [oL]).toArray (l ++ [true]).toArray = []:=(rd _ _).trans (h2 hr)
        change [l'.length].reverse ++ (match (Region.ready .any (l' ++ [oL]).toArray (l ++ [true]).toArray)[(t / 1) % (Region.ready .any (l' ++ [oL]).toArray (l ++ [true]).toArray).length]? with
          | some i=>Region.linearise.go .any (l' ++ [oL]).toArray fuel ((t / 1) / (Region.ready .any (l' ++ [oL]).toArray (l ++ [true]).toArray).length) ((l ++ [true]).toArray.setIfInBounds i true) [i]
          | none=>[].reverse) = _
        rw [e3]; rfl
    rw [e1]; exact hQ _ _ _ _ hq
  intro fuel
  induction fuel with
  | zero =>
    intro t l e ds ρ σ hl hcl h
    exact fin 0 t l e ds ρ σ hl hcl ((rd _ _).symm.trans h.1) h.2
  | succ fuel ih =>
    intro t l e ds ρ σ hl hcl h
    rcases h with h | ⟨ρ₁,σ₁,hgh,_,h₀,h₁⟩
    · exact fun tm k cs ht=>Rc h
    refine fun tm k cs ht=>.ghost hgh ?_
    revert tm k cs
    change Lz C b n (l' ++ [oL]).toArray (Region.linearise.go .any (l' ++ [oL]).toArray (fuel + 1 + 1) t (l ++ [false]).toArray []) Q e ds ρ₁ σ₁
    by_cases hr:Dk l' l = []
    · exact fin (fuel + 1) t l e ds ρ₁ σ₁ hl hcl hr (h₀ ((rd _ _).trans hr))
    obtain ⟨h1,h2,h3⟩:=spec l hl hcl
    rw [if_neg hr] at h1
    rw [Region.linearise.go]
    change Lz C b n (l' ++ [oL]).toArray (match (Region.ready .any (l' ++ [oL]).toArray (l ++ [false]).toArray)[t % (Region.ready .any (l' ++ [oL]).toArray (l ++ [false]).toArray).length]? with
      | some i=>Region.linearise.go .any (l' ++ [oL]).toArray (fuel + 1) (t / (Region.ready .any (l' ++ [oL]).toArray (l ++ [false]).toArray).length) ((l ++ [false]).toArray.setIfInBounds i true) [i]
      | none=>[].reverse) Q e ds ρ₁ σ₁
    rw [rd,h1]
    have hlen:0 < (Dk l' l).length:=List.length_pos_iff.2 hr
    have hlt:t % (Dk l' l).length < (Dk l' l).length:=Nat.mod_lt _ hlen
    rw [List.getElem?_eq_getElem hlt]
    simp only []
    have hi:(Dk l' l)[t % (Dk l' l).length] ∈ Dk l' l:=List.getElem_mem hlt
    generalize (Dk l' l)[t % (Dk l' l).length] = i at hi
    have hi':i < l'.length:=by
      have:=(List.mem_filter.1 (show i ∈ (List.range l'.length).filter _ from hi)).1
      simpa using this
    rw [linearise_go_acc,List.reverse_singleton,List.singleton_append]
    have h4:=h₁ i (by rw [rd]; exact hi)
    have e5:(l ++ [false]).toArray.setIfInBounds i true = (l.set i true ++ [false]).toArray:=by
      simp [List.set_append_left _ _ (hl ▸ hi')]
    have e6:l.toArray.setIfInBounds i true = (l.set i true).toArray:=by simp
    rw [e5]
    refine Va hs hk ?_
    -- the operation is the same in both arrays
    have ho:l'[i]? = some l'[i]:=List.getElem?_eq_getElem hi'
    have ho2:(l' ++ [oL])[i]? = some l'[i]:=by rw [List.getElem?_append_left hi',ho]
    have hgn:(l'[i]).guard = none:=by
      have:=List.all_eq_true.1 hg _ (List.getElem_mem hi')
      simpa using this
    unfold OpH at h4 ⊢
    simp only [List.getElem?_toArray,ho,ho2] at h4 ⊢
    have w1:Bz l'.toArray l'[i] e = true:=by unfold Bz; rw [hgn]
    have w2:Bz (l' ++ [oL]).toArray l'[i] e = true:=by unfold Bz; rw [hgn]
    rw [if_pos w1] at h4
    rw [if_pos w2]
    refine Et (fun nx σ' hn=>hn.mono fun v ds ρ σ hh=>?_) _ _ h4
    refine ih _ _ _ _ _ _ (by simpa using hl) (h3 i hi) ?_
    rw [← e6]; exact hh.2
theorem Gd {l₀:List Oper} {id:Nat} {Q:Hv} {e:Env} {ds:List Deferred} {ρ:Ro} {σ:Own} (hs:Nk n l₀ = true) (hk:b.kind ≠ .early) (h:Ey C b n l₀ l₀ (fun e ds ρ σ=>Q .normal e ds ρ σ) e ds ρ σ):WpC C b n (.region id l₀.toArray false) Q e ds ρ σ:=by
  refine Wt (Ie hs) hk ?_
  have:=h [] rfl (Ie hs) hk
  simpa [List.range_eq_range'] using this
theorem Apf {e:Env} {args:List Operand} {vs:List Value} {f:FuncId} {tys:Array TypeId} {ty:TypeId} (hv:EvL e args vs):resolve (Af e) ⟨.value (.func f),args.toArray,tys⟩ ty = pure { target:=.fn (.func f) #[],args:=vs.toArray }:=by
  have hv':=hv.map
  show Deferred.ofValue (Af e (.func f)) (args.toArray.map (Af e)) = _
  rw [hv']
  show (pure { target:=.fn (.func f) #[],args:=#[] ++ vs.toArray }:Sem Deferred) = _
  rw [Array.empty_append]
/-- A drawn region whose last operation waits for all the others. -/
theorem Agw {l₀:List Oper} {id:Nat} {Q:Hv} {e:Env} {ds:List Deferred} {ρ:Ro} {σ:Own} (k:Nat) (pz:List Nat) (hm:C.P.follows .mixedOrders = true) (hs:Nk n l₀ = true) (hk:b.kind = .normal) (hd:∃ oL,l₀.drop k = [oL]) (hg:Acv (l₀.take k) = true) (hc:Ams (l₀.take k) l₀ = true)
    (h:∀ K:Env→List Deferred→Ro→Own→Prop,(∀ e ds ρ σ,Ey C b n l₀ (l₀.drop k) (fun e ds ρ σ=>Q .normal e ds ρ σ) e ds ρ σ→K e ds ρ σ)→El C b (l₀.take k).toArray K pz (leS ρ) (l₀.take k).length (List.replicate (l₀.take k).length false).toArray e ds ρ σ):WpC C b n (.region id l₀.toArray true) Q e ds ρ σ:=by
  obtain ⟨oL,hd⟩:=hd
  have hl:l₀.take k ++ [oL] = l₀:=by rw [← hd,List.take_append_drop]
  have hs':=Ie hs
  have hk':b.kind ≠ .early:=by rw [hk]; simp
  have h2:=h (fun e ds ρ σ=>Lz C b n l₀.toArray [(l₀.take k).length] (fun e ds ρ σ=>Q .normal e ds ρ σ) e ds ρ σ) fun e ds ρ σ ho=>by
    have:=ho (l₀.take k) (List.take_append_drop k l₀).symm hs' hk'
    rw [hd] at this; exact this
  have hlen:l₀.toArray.size = (l₀.take k).length + 1:=by
    rw [List.size_toArray]; have:=congrArg List.length hl; simp only [List.length_append,List.length_singleton] at this; omega
  intro tm ks cs ht
  refine .step (fun fr' cs' σ'=>∃ t,fr' = Fr b tm ds (.inRegion l₀.toArray (Region.linearise .any l₀.toArray t) :: ks)∧cs' = cs∧σ' = σ) (fun W hsat=>?_) ?_
  · refine ⟨_,cs,{ W with drawn:=W.drawn + 1 },#[],σ,?_,?_,by simp,W.tape W.drawn (.order b.fn id),rfl,rfl,rfl⟩
    · simp [Conc.G,stepG,stepG.exec,Fr,choose,Sem.run,Question.forced,Question.cut,Region.schedule,hm]
    · have:=Trans.refl hsat
      exact ⟨⟨hsat.ro,hsat.own,hsat.nd,hsat.dj⟩,this.size,this.keys,this.kept,this.fresh,this.frame,this.ends,this.chans,this.chansKept,rfl,rfl,rfl⟩
  · rintro _ _ σ1 ⟨t,rfl,hcs,hσ⟩
    replace hσ:=hσ.symm; replace hcs:=hcs.symm; subst hσ hcs
    have key:=Abm (C:=C) (b:=b) (n:=n) (l':=l₀.take k) (oL:=oL) (Q:=fun e ds ρ σ=>Q .normal e ds ρ σ) (pz:=pz) (S:=leS ρ) (by rw [hl]; exact hs') hk' hg (by rw [hl]; exact hc) (fun e ds ρ σ h=>by rw [hl]; exact h) (l₀.take k).length t (List.replicate (l₀.take k).length false) e ds ρ σ (by simp) (by
      unfold Mg
      rw [List.all_eq_true]
      intro i hi
      have:(List.replicate (l₀.take k).length false).getD i false = false:=by
        rw [List.getD_eq_getElem?_getD,List.getElem?_replicate]; split <;> rfl
      rw [this]; rfl) h2
    rw [hl] at key
    have e1:Region.linearise .any l₀.toArray t = Region.linearise.go .any l₀.toArray ((l₀.take k).length + 1) t (List.replicate (l₀.take k).length false ++ [false]).toArray []:=by
      unfold Region.linearise
      rw [hlen]
      congr 1
      rw [← List.replicate_succ',List.toArray_replicate]
    rw [e1]
    refine (key tm ks cs ht).mono ?_
    rintro _ _ ρ' σ' ⟨rfl,tm',e',ds',h1,h2,rfl⟩
    exact ⟨rfl,.normal,tm',e',ds',ks,h1,h2,rfl,rfl⟩
end
end Go.Proofs.YtoefdnbaklajeaaDoor

namespace Go.Proofs.YtoefdnbaklajeaaDoor
open Go
def Fj (m:Market):List Nat:=(List.range (1 <<< m.houses.length)).filter (Fk m)
/-- What is still to be sent when the sets before i have been looked at. -/
def Ja (m:Market) (i:Nat):List Value:=((List.range' i ((1 <<< m.houses.length) - i)).filter (Fk m)).map fun x:Nat=>Value.int .u64 (x:Int)
theorem Ail {m:Market}:Ja m 0 = (Fj m).map fun x:Nat=>Value.int .u64 (x:Int):=by
  unfold Ja Fj; rw [List.range_eq_range',Nat.sub_zero]
theorem Ahy {m:Market} {i:Nat} (hi:i < 1 <<< m.houses.length) (h:Fk m i = true):Ja m i = .int .u64 (i:Int) :: Ja m (i + 1):=by
  unfold Ja
  rw [show 1 <<< m.houses.length - i = (1 <<< m.houses.length - (i + 1)) + 1 by omega,List.range'_succ,List.filter_cons,h,if_pos rfl,List.map_cons]
theorem Aie {m:Market} {i:Nat} (hi:i < 1 <<< m.houses.length) (h:Fk m i = false):Ja m i = Ja m (i + 1):=by
  unfold Ja
  rw [show 1 <<< m.houses.length - i = (1 <<< m.houses.length - (i + 1)) + 1 by omega,List.range'_succ,List.filter_cons,h,if_neg (by simp)]
theorem Aap {m:Market} {i:Nat} (hi:1 <<< m.houses.length ≤ i):Ja m i = []:=by
  unfold Ja; rw [show 1 <<< m.houses.length - i = 0 by omega]; rfl
/-- One more set: the fewest so far,and all that have so many. -/
def Im (a:Nat × List Nat) (x:Nat):Nat × List Nat :=
  if a.2 = []∨De x < a.1 then (De x,[x]) else if De x = a.1 then (a.1,a.2 ++ [x]) else a
def chF (l:List Nat):Nat × List Nat:=l.foldl Im (0,[])
theorem Jj {l:List Nat} {x:Nat}:chF (l ++ [x]) = Im (chF l) x:=by unfold chF; rw [List.foldl_append]; rfl
theorem Aib {α:Type} {P:List α→Prop} (h0:P []) (h1:∀ l x,P l→P (l ++ [x])) (l:List α):P l:=by
  have h:∀ l:List α,P l.reverse:=fun l=>by
    induction l with
    | nil=>exact h0
    | cons a l ih=>rw [List.reverse_cons]; exact h1 _ _ ih
  have:=h l.reverse
  rwa [List.reverse_reverse] at this
theorem Uy (l:List Nat):(l = []∧chF l = (0,[]))∨(l ≠ []∧(∀ x ∈ l,(chF l).1 ≤ De x)∧(chF l).2 = l.filter (fun x=>De x == (chF l).1)∧(chF l).2 ≠ []):=by
  refine Aib (P:=fun l=>(l = []∧chF l = (0,[]))∨(l ≠ []∧(∀ x ∈ l,(chF l).1 ≤ De x)∧(chF l).2 = l.filter (fun x=>De x == (chF l).1)∧(chF l).2 ≠ [])) (Or.inl ⟨rfl,rfl⟩) (fun l x ih=>?_) l
  · right
    rw [Jj]
    refine ⟨by simp,?_⟩
    rcases ih with ⟨rfl,h⟩ | ⟨h1,h2,h3,h4⟩
    · rw [h]
      simp [Im]
    · unfold Im
      by_cases hlt:De x < (chF l).1
      · rw [if_pos (.inr hlt)]
        refine ⟨fun y hy=>?_,?_,by simp⟩
        · rcases List.mem_append.1 hy with hy | hy
          · have:=h2 y hy; simp only; omega
          · rw [List.mem_singleton.1 hy]; exact Nat.le_refl _
        · rw [List.filter_append,List.filter_eq_nil_iff.2 fun y hy=>by have:=h2 y hy; simp; omega]
          simp
      · rw [if_neg (by simp only [not_or]; exact ⟨h4,hlt⟩)]
        by_cases he:De x = (chF l).1
        · rw [if_pos he]
          refine ⟨fun y hy=>?_,?_,by simp⟩
          · rcases List.mem_append.1 hy with hy | hy
            · exact h2 y hy
            · rw [List.mem_singleton.1 hy,he]; exact Nat.le_refl _
          · rw [List.filter_append,← h3]; simp [he]
        · rw [if_neg he]
          refine ⟨fun y hy=>?_,?_,h4⟩
          · rcases List.mem_append.1 hy with hy | hy
            · exact h2 y hy
            · rw [List.mem_singleton.1 hy]; omega
          · rw [List.filter_append,← h3]; simp [he]
theorem Mr {m:Market} {n:Nat}:lv m n = (Fj m).filter (fun x=>De x == n):=by
  unfold lv Aoo Fj; rw [List.filter_filter]
theorem Sg {s:Nat × List Nat} {x:Nat} (h:s.2 = []∨De x < s.1):Im s x = (De x,[x]):=by unfold Im; rw [if_pos h]
theorem Yb {s:Nat × List Nat} {x:Nat} (h1:(uws s.2).length ≠ 0) (h2:¬ De x < s.1) (h3:De x = s.1):Im s x = (s.1,s.2 ++ [x]):=by
  unfold Im; rw [if_neg,if_pos h3]
  rintro (h | h)
  · rw [h] at h1; exact h1 rfl
  · exact h2 h
theorem Xw {s:Nat × List Nat} {x:Nat} (h1:(uws s.2).length ≠ 0) (h2:¬ De x < s.1) (h3:De x ≠ s.1):Im s x = s:=by
  unfold Im; rw [if_neg,if_neg h3]
  rintro (h | h)
  · rw [h] at h1; exact h1 rfl
  · exact h2 h
theorem Sp {l:List Nat} (h:(uws l).length = 0):l = []:=by rw [Xe] at h; exact List.eq_nil_of_length_eq_zero h
theorem Akz {l:List Nat} {x:Nat}:uws l ++ [UW.mk x] = uws (l ++ [x]):=by simp [uws]
theorem Akx {l:List Nat}:∀ a ∈ (chF l).2,a ∈ l:=fun a ha=>by
  rcases Uy l with ⟨_,h⟩ | ⟨_,_,h,_⟩
  · rw [h] at ha; cases ha
  · rw [h] at ha; exact (List.mem_filter.1 ha).1
theorem Adw {m:Market} (ok:MarketOk m):chF (Fj m) = (Abl m,lv m (Abl m)):=by
  obtain ⟨n0,hn0,hs0⟩:=Aku ok
  have hne:Fj m ≠ []:=fun h=>by rw [Mr,h] at hs0; cases hs0
  obtain ⟨_,h2,h3,h4⟩:=(Uy (Fj m)).resolve_left fun h=>hne h.1
  rw [← Mr] at h3
  have hle:(chF (Fj m)).1 ≤ n0:=by
    cases h:lv m n0 with
    | nil=>rw [h] at hs0; cases hs0
    | cons a l =>
      have ha:a ∈ lv m n0:=by rw [h]; exact List.mem_cons_self ..
      rw [Mr,List.mem_filter] at ha
      have:=h2 a ha.1
      have h5:De a = n0:=by simpa using ha.2
      omega
  have hN:Abl m = (chF (Fj m)).1:=Ant (by omega) (fun j hj=>by
    rw [Mr,List.filter_eq_nil_iff.2]
    · rfl
    · intro a ha hp
      have:=h2 a ha
      have:De a = j:=by simpa using hp
      omega) (by rw [← h3]; exact fun h=>h4 (List.eq_nil_of_length_eq_zero h))
  rw [hN,← h3]
theorem Amg {l:List Nat}:(chF l).2.length ≤ l.length:=by
  rcases Uy l with ⟨_,h⟩ | ⟨_,_,h,_⟩
  · rw [h]; simp
  · rw [h]; exact List.length_filter_le _ _
theorem Tk {m:Market} (ok:MarketOk m):∀ a ∈ Fj m,a < 32:=fun a ha=>by
  have h1:=List.mem_range.1 (List.mem_filter.1 ha).1
  have h2:=(Ame (Hp ok)).2
  omega
theorem Zy {m:Market} (ok:MarketOk m):(Fj m).length ≤ 32:=by
  have h1:=List.length_filter_le (Fk m) (List.range (1 <<< m.houses.length))
  have h2:=(Ame (Hp ok)).2
  rw [List.length_range] at h1
  unfold Fj; omega
theorem Ye {σ:Own} {k:Nat} (h:Js σ):Js ((k,Res.chan) :: σ):=fun c vs hm=>by
  rcases List.mem_cons.1 hm with e | hm
  · injection e with _ e; cases e
  · exact h c vs hm
end Go.Proofs.YtoefdnbaklajeaaDoor

namespace Go.Proofs.YtoefdnbaklajeaaDoor
open Go
set_option maxRecDepth 100000 in
theorem Ald {m:Market} {vg:Value} {c:Nat} {ρ:Ro} (rg:Val ρ vg (⟨m,⟨En m⟩⟩:GMarket)) (ok:MarketOk m):SendI Tryd.prog c (Ja m 0) (Gi Tryd.prog { target:=.fn (.func 83) #[],args:=[vg,.chan (some c)].toArray }) [] ρ []:=by
 have hh5:=Hp ok
 have hsh:=Ame hh5
 refine Aky (n:=20) (tys:=#[183]) (ty:=0) (cn:=#[false]) Tryd.func83 rfl rfl rfl rfl rfl rfl fun Q hret hnor=>?_
 refine Nd fun K1 k1=>?_
 refine Ol (Gd rfl (fun h=>(by cases h)) ?_)
 refine Ae rfl (Eb (v:=vg) rfl fun k2=>?_)
 refine Bb (a:=(⟨m,⟨En m⟩⟩:GMarket)) rg fun ρ2 l2 r2=>?_
 replace rg:=Asa l2 rg
 apply Ac
 refine k1 _ _ _ _ _ ?_
 refine Nd fun K3 k3=>?_
 refine Ol (Gd rfl (fun h=>(by cases h)) ?_)
 refine l_M (.chan (some c)) rfl rfl ?_
 refine Ada rfl (Wu rfl rfl ?_)
 show Ey _ _ _ _ _ _ _ _ _ _
 apply Ac
 refine k3 _ _ _ _ _ ?_
 refine Nd fun K4 k4=>?_
 refine Ol (Gd rfl (fun h=>(by cases h)) ?_)
 refine Ak rfl (Ay GMarket.f_m Tryd.underlying133 rfl rfl Lj (by decide) rfl r2) fun v5 r5=>?_
 refine Ak rfl (Ay Market.f_houses Tryd.underlying26 rfl rfl Hu (by decide) rfl r5) fun v6 r6=>?_
 refine Ak rfl (Ax Hu rfl r6) fun v7 r7=>?_
 have g8:=Val.len r7
 refine Aa rfl (Ce (el:=9) Tryd.underlying22 rfl r7) ?_
 refine Aa rfl (Ly (p:=1) (q:=m.houses.length) rfl rfl rfl (by omega) (z:=(((1 <<< m.houses.length):Nat):Int)) (Eu (by omega) (by omega))) ?_
 refine l_M (.int .u64 (0)) rfl rfl ?_
 apply Ac
 refine k4 _ _ _ _ _ ?_
 refine Yh ?_
 refine Alx (fun mm vv ee dd ρ' σ'=>∃ (x:Nat),(1 <<< m.houses.length - x) = mm∧[Lp c #[183] 0 #[false]] = dd∧ρ2 = ρ'∧[] = σ'∧ee 1 = (.chan (some c))∧ee 2 = (.pointer (some ⟨k2,0,none⟩))∧ee 10 = (.int .u64 ((((1 <<< m.houses.length):Nat):Int)))∧ee 11 = (.int .u64 ((x:Int)))∧(x ≤ 1 <<< m.houses.length)∧(vv = Ja m x)∧True) (m:=_) ⟨0,rfl,rfl,rfl,rfl,rfl,rfl,rfl,rfl,(Nat.zero_le _),rfl,trivial⟩ ?_
 rintro m9 vv e9 _ _ _ ⟨x,rfl,rfl,rfl,rfl,h9_1,h9_2,h9_10,h9_11,p9_0,p9_1,_⟩
 refine Nd fun K10 k10=>?_
 refine Ol (Gd rfl (fun h=>(by cases h)) ?_)
 refine Aa rfl (Da (p:=(x:Int)) (q:=(((1 <<< m.houses.length):Nat):Int)) h9_11 h9_10) ?_
 apply Ac
 refine k10 _ _ _ _ _ ?_
 refine Nd fun K11 k11=>?_
 refine Adb (t:=decide ((x:Int) < (((1 <<< m.houses.length):Nat):Int))) rfl (fun b12=>?_) (fun b12=>?_)
 ·have q12:=of_decide_eq_true b12
  refine Adp ?_
  refine k11 _ _ _ _ _ ?_
  refine Nd fun K13 k13=>?_
  refine Yh ?_
  refine Nd fun K14 k14=>?_
  refine Ol (Gd rfl (fun h=>(by cases h)) ?_)
  refine Aa rfl (Ah (v:=(.int .u64 ((x:Int)))) h9_11) ?_
  refine l_A (.int .u64 ((x:Int))) rfl rfl ?_
  apply Ac
  refine k14 _ _ _ _ _ ?_
  refine Nd fun K15 k15=>?_
  refine Ol (Gd rfl (fun h=>(by cases h)) ?_)
  refine Ak rfl (Ax Vo h9_2 r2) fun v16 r16=>?_
  refine l_M (.int .u64 ((x:Int))) rfl rfl ?_
  refine Ae rfl (Bn (vs:=[v16,(.int .u64 ((x:Int)))]) (v:=(.bool (Fk m x))) (Ajz (set:=x) r16 ok (by omega)) Tryd.func115 rfl rfl ⟨rfl,rfl,trivial⟩ ?_)
  apply Ac
  refine k15 _ _ _ _ _ ?_
  refine Adb (t:=Fk m x) rfl (fun b17=>?_) (fun b17=>?_)
  ·rw [p9_1,Ahy (by omega) b17]
   refine Aam (Ie rfl) (fun h=>(by cases h)) ?_
   refine Amt rfl (fun _ h=>(by cases h)) (Ah (v:=(.chan (some c))) h9_1) ?_
   refine Amt rfl (fun _ h=>(by cases h)) (Ah (v:=(.int .u64 ((x:Int)))) rfl) ?_
   refine Ani rfl rfl rfl ?_
   refine Aqc ?_
   refine k13 _ _ _ _ _ ?_
   refine Ol (Gd rfl (fun h=>(by cases h)) ?_)
   refine Aa rfl (Br (p:=(x:Int)) (q:=1) h9_11 rfl (z:=(((x + 1):Nat):Int)) ((Eu (by omega) (by omega)).trans (by push_cast; rfl))) ?_
   refine l_M (.int .u64 ((((x + 1):Nat):Int))) rfl rfl ?_
   apply Ac
   refine ⟨_,?_,((x + 1)),rfl,rfl,rfl,rfl,h9_1,h9_2,h9_10,rfl,(by omega),(by rfl),trivial⟩
   omega
  refine Adp ?_
  refine k13 _ _ _ _ _ ?_
  refine Ol (Gd rfl (fun h=>(by cases h)) ?_)
  refine Aa rfl (Br (p:=(x:Int)) (q:=1) h9_11 rfl (z:=(((x + 1):Nat):Int)) ((Eu (by omega) (by omega)).trans (by push_cast; rfl))) ?_
  refine l_M (.int .u64 ((((x + 1):Nat):Int))) rfl rfl ?_
  apply Ac
  refine ⟨_,?_,((x + 1)),rfl,rfl,rfl,rfl,h9_1,h9_2,h9_10,rfl,(by omega),(p9_1.trans (Aie (by omega) b17)),trivial⟩
  omega
 have q12:=of_decide_eq_false b12
 refine Alu ?_
 rw [p9_1,Aap (by omega)]
 exact hnor _ _ _
end Go.Proofs.YtoefdnbaklajeaaDoor

namespace Go.Proofs.YtoefdnbaklajeaaDoor
open Go
set_option maxHeartbeats 1000000 in
set_option maxRecDepth 100000 in
theorem Aio  {ρ:Ro} {σ:Own} {m:Market} {vm:Value} (rm:Val ρ vm m) (hnr:Js σ):CallsH (CX true (Acu Tryd.prog)) 31 #[vm] ρ σ (fun w ρ' σ'=>Ro.le ρ ρ'∧σ' = σ∧∃ v0,w = (.tuple #[(iV (Akj m)),v0,(iV (Ch m))])∧Val ρ' v0 (Alc m:List Int)):=by
 refine Bh (n:=60) (args:=[vm]) [2,3,4] Tryd.func31 rfl rfl rfl rfl fun Q hret hnor=>?_
 refine w_q rfl rfl fun K1 k1=>?_
 refine Ae rfl (Eb (v:=vm) rfl fun k2=>?_)
 refine Bb (a:=m) rm fun ρ2 l2 r2=>?_
 replace rm:=Asa l2 rm
 refine l_A (iV (0)) rfl rfl ?_
 refine l_A (.slice none 0 0) rfl rfl ?_
 refine l_A (iV (0)) rfl rfl ?_
 apply Ac
 apply k1
 refine Ai fun K3 k3=>?_
 refine w_q rfl rfl fun K4 k4=>?_
 refine Ak rfl (Ax Lj rfl r2) fun v5 r5=>?_
 refine Ae rfl (Bn (vs:=[v5]) (v:=(iV (Ch m))) (Jp r5) Tryd.func43 rfl rfl ⟨rfl,trivial⟩ ?_)
 refine l_A (iV (Ch m)) rfl rfl ?_
 apply Ac
 apply k4
 refine w_q rfl rfl fun K6 k6=>?_
 refine l_M (iV (Ch m)) rfl rfl ?_
 refine Aa rfl (Dg (p:=Ch m) (q:=0) rfl rfl) ?_
 apply Ac
 apply k6
 refine As (t:=Ch m != 0) rfl (fun b7=>?_) (fun b7=>?_)
 ·have q7:=Mb b7
  refine w_q rfl rfl fun K8 k8=>?_
  refine l_M (iV (Ch m)) rfl rfl ?_
  refine l_A (iV (0)) rfl rfl ?_
  refine l_A (.slice none 0 0) rfl rfl ?_
  refine l_A (iV (Ch m)) rfl rfl ?_
  apply Ac
  apply k8
  refine Aq ?_
  refine hret _ _ _ ?_
  refine ⟨l2,rfl,(.slice none 0 0),Eq.trans (b:=(.tuple #[(iV (0)),(.slice none 0 0),(iV (Ch m))])) (Mk (r:=2) (r':=3) (rs:=[4]) (v:=(iV (0))) (v':=(.slice none 0 0)) (vs:=[(iV (Ch m))]) ⟨rfl,rfl,rfl,trivial⟩) ?_,Val.cast ?_ Gx⟩
  ·rw [Akj,if_neg q7]
  ·rw [Alc,if_neg q7]
 have hm0:=Jh b7
 have ok:=Qv hm0
 have hh5:=Hp ok
 have hel:=Zy ok
 have q7:=Jh b7
 refine Al ?_
 apply k3
 refine w_q rfl rfl fun K9 k9=>?_
 refine Ae rfl (Abb Tryd.underlying129 (Ab Tryd.typeInfo136) rfl fun k10=>?_)
 refine l_A (.chan (some k10)) rfl rfl ?_
 apply Ac
 apply k9
 refine Ai fun K11 k11=>?_
 refine Agw 5 [0,1,2,3,4] (by kernel_rfl) rfl rfl ⟨_,rfl⟩ (by kernel_rfl) (by kernel_rfl) fun KG12 kg12=>?_
 refine Cd (i:=0) [o1,o0,o0,o0,o0] rfl (by kernel_rfl) rfl Ary rfl (Ax Lj rfl r2) fun v13 r13=>?_
 refine Cd (i:=1) [o1,o1,o0,o0,o0] rfl (by kernel_rfl) rfl Ary rfl (Ax Lj rfl r2) fun v14 r14=>?_
 refine Be (i:=4) [o1,o1,o0,o0,o1] rfl (by kernel_rfl) rfl Ary rfl (Ah (v:=(.chan (some k10))) rfl) ?_
 refine Dj (i:=2) [o1,o1,o1,o0,o1] rfl (by kernel_rfl) rfl rfl (Cm (vs:=[v14]) (Uo r14 ok) Tryd.func82 rfl rfl ⟨rfl,trivial⟩ fun v15 ρ15 σ15 hc15=>?_)
 obtain ⟨l15,s15,r15⟩:=hc15
 replace s15:=s15.symm; subst s15
 replace r2:=Arv l15 r2
 replace r13:=Asa l15 r13
 replace r14:=Asa l15 r14
 refine ⟨l15,?_⟩
 refine Hl (i:=3) [o1,o1,o1,o1,o1] rfl (by kernel_rfl) rfl l15 rfl (Rr rfl r13 rfl r15) fun v16 r16=>?_
 refine Ec rfl ?_
 refine kg12 _ _ _ _ ?_
 refine Arr (P:=Tryd.prog) (i:=0) (ch:=k10) (vs:=(Fj m).map (fun x:Nat=>Value.int .u64 (x:Int))) (df:={ target:=.fn (.func 83) #[],args:=[v16,(.chan (some k10))].toArray }) rfl ?_ ⟨_,_,rfl⟩ (Ye hnr) rfl (by rw [← Ail]; exact Ald r16 ok) ?_
 ·exact Apf ⟨rfl,rfl,trivial⟩
 apply Ac
 apply k11
 refine w_q rfl rfl fun K17 k17=>?_
 refine l_A (.slice none 0 0) rfl rfl ?_
 apply Ac
 apply k17
 refine Ai fun K18 k18=>?_
 refine w_q rfl rfl fun K19 k19=>?_
 refine l_M (.chan (some k10)) rfl rfl ?_
 apply Ac
 apply k19
 refine Ao ?_
 refine Cc (fun mm ee dd ρ' σ'=>∃ (done:List Nat) (xs:List Nat) (f:Nat) (ov20_7:Value) (og20_7:Own),(xs.length) = mm∧[] = dd∧Ro.le ρ15 ρ'∧(og20_7 ++ ((k10,Res.recv (xs.map (fun x:Nat=>Value.int .u64 (x:Int)))) :: σ)) = σ'∧ee 1 = (.pointer (some ⟨k2,0,none⟩))∧ee 3 = (.slice none 0 0)∧ee 22 = (.chan (some k10))∧ee 2 = (iV ((f:Int)))∧ee 7 = ov20_7∧(Fj m = done ++ xs)∧(f = (chF done).1)∧Grow ρ' 136 ov20_7 (uws (chF done).2) og20_7∧True) (m:=_) ⟨[],Fj m,0,(.slice none 0 0),[],rfl,rfl,Ary,rfl,rfl,rfl,rfl,rfl,rfl,rfl,rfl,Hn,trivial⟩ ?_
 rintro m20 e20 _ ρ20 _ ⟨done,xs,f,ov20_7,og20_7,rfl,rfl,l20,rfl,h20_1,h20_3,h20_22,h20_2,h20_7,p20_0,p20_1,OG20_7,_⟩
 replace r2:=Arv l20 r2
 have hdl:done.length ≤ 32:=by (have h1:=congrArg List.length p20_0); rw [List.length_append] at h1; omega
 have hcl:=Amg (l:=done)
 have hul:=Xe (xs:=(chF done).2)
 refine w_q rfl rfl fun K21 k21=>?_
 refine Bj (σ':=((k10,Res.recv (xs.map (fun x:Nat=>Value.int .u64 (x:Int)))) :: (og20_7 ++ σ))) (Arx (List.perm_append_comm_assoc og20_7 ([(k10,Res.recv (xs.map (fun x:Nat=>Value.int .u64 (x:Int))))]) _)) ?_
 rcases xs with _ | ⟨x,ys⟩
 ·refine Agc (P:=Tryd.prog) (i:=0) rfl Tryd.underlying129 Yk h20_22 rfl ?_
  refine Aa rfl (Bk (vs:=#[(.int .u64 (0)),(.bool (false))]) rfl (v:=(.bool (false))) rfl) ?_
  apply Ac
  apply k21
  refine Ai fun K22 k22=>?_
  refine Cg rfl rfl ?_
  refine Bx ?_
  apply k18
  refine Ai fun K23 k23=>?_
  refine w_q rfl rfl fun K24 k24=>?_
  refine Ak rfl (Ay Market.f_houses Tryd.underlying26 rfl rfl Hu (by decide) h20_1 r2) fun v25 r25=>?_
  refine Ak rfl (Ax Hu rfl r25) fun v26 r26=>?_
  have g27:=Val.len r26
  refine Aa rfl (Ce (el:=9) Tryd.underlying22 rfl r26) ?_
  refine l_M (iV (0)) rfl rfl ?_
  apply Ac
  apply k24
  refine Ao ?_
  refine Gy OG20_7 fun ρ28 l28 r28=>?_
  have hde:done = Fj m:=by rw [p20_0,List.append_nil]
  refine Cc (fun mm ee dd ρ' σ'=>∃ (h:Nat) (ov29_3:Value) (og29_3:Own),(m.houses.length - h) = mm∧[] = dd∧Ro.le ρ28 ρ'∧(og29_3 ++ σ) = σ'∧ee 2 = (iV ((f:Int)))∧ee 7 = ov20_7∧ee 46 = (iV (((m.houses.length:Nat):Int)))∧ee 3 = ov29_3∧ee 47 = (iV ((h:Int)))∧(h ≤ m.houses.length)∧Grow ρ' 53 ov29_3 ((List.range h).map (Pt (chF done).2)) og29_3∧True) (m:=_) ⟨0,(.slice none 0 0),[],rfl,rfl,Ary,rfl,h20_2,h20_7,rfl,h20_3,rfl,(Nat.zero_le _),Hn,trivial⟩ ?_
  rintro m29 e29 _ ρ29 _ ⟨h,ov29_3,og29_3,rfl,rfl,l29,rfl,h29_2,h29_7,h29_46,h29_3,h29_47,p29_0,OG29_3,_⟩
  replace r28:=Asa l29 r28
  refine w_q rfl rfl fun K30 k30=>?_
  refine Aa rfl (Da (p:=(h:Int)) (q:=((m.houses.length:Nat):Int)) h29_47 h29_46) ?_
  apply Ac
  apply k30
  refine Ai fun K31 k31=>?_
  refine As (t:=decide ((h:Int) < ((m.houses.length:Nat):Int))) rfl (fun b32=>?_) (fun b32=>?_)
  ·have q32:=of_decide_eq_true b32
   refine Al ?_
   apply k31
   refine Ai fun K33 k33=>?_
   refine Ao ?_
   refine w_q rfl rfl fun K34 k34=>?_
   refine Aa rfl (Ah (v:=(iV ((h:Int)))) h29_47) ?_
   refine Ae rfl (Ct zr3 fun k35=>?_)
   refine Cx rfl (Du (v:=(iV ((h:Int)))) (a:=(h:Int)) (c:=zc3) ty3 rfl rfl (Cv.2 ⟨rfl,by constructor <;> omega⟩) rfl ?_)
   refine Bb (a:=(h:Int)) (Cv.2 ⟨rfl,by constructor <;> omega⟩) fun ρ36 l36 r36=>?_
   replace r28:=Asa l36 r28
   replace OG29_3:=Grow.mono l36 OG29_3
   apply Ac
   apply k34
   refine Ag rfl rfl ?_
   refine Aa rfl (Ah (v:=ov29_3) h29_3) ?_
   refine Aa rfl (Ah (v:=ov20_7) h29_7) ?_
   refine Ae rfl (Cm (vs:=[ov20_7]) (Ain r28) Tryd.func86 rfl rfl ⟨rfl,trivial⟩ fun v37 ρ37 σ37 hc37=>?_)
   obtain ⟨l37,s37,r37⟩:=hc37
   replace s37:=s37.symm; subst s37
   replace r28:=Asa l37 r28
   replace OG29_3:=Grow.mono l37 OG29_3
   replace r36:=Arv l37 r36
   refine Aa rfl (Ic (fn:=.func 87) (caps:=[.tmp 10]) (vs:=[(.pointer (some ⟨k35,0,none⟩))]) ⟨rfl,trivial⟩) ?_
   have hj38:=Aai (p:=fun x=>Cu x h) (xs:=(chF done).2)
   refine Ae rfl (Bn (vs:=[v37,(.func (.func 87) #[] #[(.pointer (some ⟨k35,0,none⟩))])]) (v:=(iV (Fw (fun x=>Cu x h) ((chF done).2)))) (Afg (q:=fun x=>Cu x h) r37 (Ara r36 (by omega)) (fun a ha=>Nat.lt_trans (Tk ok a (hde ▸ Akx a ha)) (by omega)) (fun x=>rfl)) Tryd.func85 rfl rfl ⟨rfl,rfl,trivial⟩ ?_)
   refine Ae rfl (Bi (α:=Int) (xs:=[Fw (fun x=>Cu x h) ((chF done).2)]) (vs:=[(iV (Fw (fun x=>Cu x h) ((chF done).2)))]) Tryd.underlying46 Ov Abg rfl (by decide) (Dl (os:=[.tmp 54]) ⟨rfl,trivial⟩) ⟨(Cv.2 ⟨rfl,by constructor <;> omega⟩),trivial⟩ rfl (by decide) fun k39 cs39 R39=>?_)
   have G39:Grow ρ37 53 (.slice (some ⟨k39,0,none⟩) 1 1) ([Fw (fun x=>Cu x h) ((chF done).2)]:List Int) [(k39,Res.obj (.cells cs39.toArray 53 (0,0)))]:=Bs R39 rfl (by decide)
   refine Ca G39 fun ρ41 l41 r41=>?_
   replace r28:=Asa l41 r28
   replace OG29_3:=Grow.mono l41 OG29_3
   replace r36:=Arv l41 r36
   replace r37:=IterF.mono l41 r37
   refine Ae rfl (Fx (σ:=σ) (gr:=og29_3) (xs:=(List.range h).map (Pt (chF done).2)) (ys:=([Fw (fun x=>Cu x h) ((chF done).2)]:List Int)) Tryd.underlying46 Tryd.underlying46 (Ab Tryd.typeInfo53) rfl (Nat.le_of_ble_eq_true rfl) rfl rfl rfl rfl OG29_3 r41 (by simp only [List.length_append,List.length_cons,List.length_nil,List.length_map,List.length_range] at *; omega) fun v40 gr40 G40=>?_)
   refine l_A v40 rfl rfl ?_
   apply Ac
   apply k33
   refine Ag rfl rfl ?_
   refine Aa rfl (Br (p:=(h:Int)) (q:=1) h29_47 rfl (z:=(((h + 1):Nat):Int)) (Bo (by first | rfl | omega | (push_cast; rfl)) (by omega) (by omega))) ?_
   refine l_M (iV ((((h + 1):Nat):Int))) rfl rfl ?_
   apply Ac
   refine ⟨_,?_,((h + 1)),v40,gr40,rfl,rfl,(Arz (Arz (Arz l29 l36) l37) l41),rfl,h29_2,h29_7,h29_46,rfl,rfl,(by omega),(Ga (by rw [Mz,Ym]) G40),trivial⟩
   omega
  have q32:=of_decide_eq_false b32
  refine Bx ?_
  apply k23
  refine w_q rfl rfl fun K42 k42=>?_
  refine Aa rfl (Ah (v:=(iV ((f:Int)))) h29_2) ?_
  refine Aa rfl (Ah (v:=ov29_3) h29_3) ?_
  refine l_A (iV ((f:Int))) rfl rfl ?_
  refine l_A ov29_3 rfl rfl ?_
  refine l_A (iV (0)) rfl rfl ?_
  apply Ac
  apply k42
  refine Gy OG29_3 fun ρ43 l43 r43=>?_
  refine Aq ?_
  refine hret _ _ _ ?_
  refine ⟨(Arz (Arz (Arz (Arz (Arz l2 l15) l20) l28) l29) l43),rfl,ov29_3,Eq.trans (b:=(.tuple #[(iV ((f:Int))),ov29_3,(iV (0))])) (Mk (r:=2) (r':=3) (rs:=[4]) (v:=(iV ((f:Int)))) (v':=ov29_3) (vs:=[(iV (0))]) ⟨rfl,rfl,rfl,trivial⟩) ?_,Val.cast ?_ r43⟩
  ·rw [Akj,if_pos hm0,p20_1,hde,Adw ok,hm0]
  ·rw [Alc,if_pos hm0,Apv,show h = m.houses.length by omega,hde,Adw ok]
 refine Aor (P:=Tryd.prog) (i:=0) (v:=(.int .u64 (x:Int))) (vs:=ys.map (fun x:Nat=>Value.int .u64 (x:Int))) rfl Tryd.underlying129 Yk h20_22 rfl ?_
 have hx32:=Tk ok x (by rw [p20_0]; simp)
 refine Aa rfl (Bk (vs:=#[(.int .u64 ((x:Int))),(.bool (true))]) rfl (v:=(.bool (true))) rfl) ?_
 apply Ac
 apply k21
 refine Ai fun K44 k44=>?_
 refine Co rfl rfl ?_
 refine Al ?_
 apply k44
 refine Ao ?_
 refine w_q rfl rfl fun K45 k45=>?_
 refine Aa rfl (Bk (vs:=#[(.int .u64 ((x:Int))),(.bool (true))]) rfl (v:=(.int .u64 ((x:Int)))) rfl) ?_
 refine l_A (.int .u64 ((x:Int))) rfl rfl ?_
 apply Ac
 apply k45
 refine w_q rfl rfl fun K46 k46=>?_
 refine l_M (.int .u64 ((x:Int))) rfl rfl ?_
 refine Ae rfl (Bn (vs:=[(.int .u64 ((x:Int)))]) (v:=(iV ((((De x):Nat):Int)))) (Ann (x:=x) (by omega)) Tryd.func84 rfl rfl ⟨rfl,trivial⟩ ?_)
 refine l_A (iV ((((De x):Nat):Int))) rfl rfl ?_
 apply Ac
 apply k46
 refine Ai fun K47 k47=>?_
 refine w_q rfl rfl fun K48 k48=>?_
 refine Aa rfl (Ah (v:=ov20_7) h20_7) ?_
 have g49:=Grow.len OG20_7
 refine Aa rfl (Aht (el':=136) Tryd.underlying135 rfl OG20_7) ?_
 refine Aa rfl (Ek (p:=(((uws (chF done).2).length:Nat):Int)) (q:=0) rfl rfl) ?_
 refine l_M (.bool ((((uws (chF done).2).length:Nat):Int) == 0)) rfl rfl ?_
 refine Cn ((((uws (chF done).2).length:Nat):Int) == 0) (fun b50=>?_) (fun b50=>?_)
 ·have q50:=Jo b50
  refine Ap (Bl rfl rfl rfl b50) ?_
  refine Ap (Bl rfl rfl rfl b50) ?_
  refine Ap (Bl rfl rfl rfl b50) ?_
  refine Aa rfl (Bt rfl b50 (v:=(.bool (true))) rfl) ?_
  apply Ac
  apply k48
  refine Co rfl rfl ?_
  refine Ag rfl rfl ?_
  refine l_M (iV ((((De x):Nat):Int))) rfl rfl ?_
  refine l_A (.slice none 0 0) rfl rfl ?_
  refine l_A (iV ((((De x):Nat):Int))) rfl rfl ?_
  apply Ac
  apply k47
  refine w_q rfl rfl fun K51 k51=>?_
  refine l_M (iV ((((De x):Nat):Int))) rfl rfl ?_
  refine l_M (iV ((((De x):Nat):Int))) rfl rfl ?_
  refine Aa rfl (Ek (p:=(((De x):Nat):Int)) (q:=(((De x):Nat):Int)) rfl rfl) ?_
  apply Ac
  apply k51
  refine Co rfl (beq_self_eq_true _) ?_
  refine Ag rfl rfl ?_
  refine l_M (.slice none 0 0) rfl rfl ?_
  refine l_M (.int .u64 ((x:Int))) rfl rfl ?_
  refine Ae rfl (Bi (α:=UW) (xs:=[(UW.mk x)]) (vs:=[(.int .u64 ((x:Int)))]) Tryd.underlying135 Yo Yk rfl (by decide) (Dl (os:=[.tmp 41]) ⟨rfl,trivial⟩) ⟨(Qz.2 rfl),trivial⟩ rfl (by decide) fun k52 cs52 R52=>?_)
  have G52:Grow ρ20 136 (.slice (some ⟨k52,0,none⟩) 1 1) ([(UW.mk x)]:List UW) [(k52,Res.obj (.cells cs52.toArray 136 (0,0)))]:=Bs R52 rfl (by decide)
  refine Ca G52 fun ρ54 l54 r54=>?_
  replace r2:=Arv l54 r2
  replace OG20_7:=Grow.mono l54 OG20_7
  refine Ae rfl (Fx (σ:=((k10,Res.recv (ys.map (fun x:Nat=>Value.int .u64 (x:Int)))) :: (og20_7 ++ σ))) (gr:=[]) (xs:=[]) (ys:=([(UW.mk x)]:List UW)) Tryd.underlying135 Tryd.underlying135 (Ab Tryd.typeInfo136) rfl (Nat.le_of_ble_eq_true rfl) rfl rfl rfl rfl (Hn (α:=UW) (el:=136)) r54 (by simp only [List.length_append,List.length_cons,List.length_nil,List.length_map,List.length_range] at *; omega) fun v53 gr53 G53=>?_)
  refine l_A v53 rfl rfl ?_
  refine Bj (σ':=(og20_7 ++ (gr53 ++ ((k10,Res.recv (ys.map (fun x:Nat=>Value.int .u64 (x:Int)))) :: σ)))) (Arx ((List.Perm.append_left gr53 (List.perm_append_comm_assoc ([(k10,Res.recv (ys.map (fun x:Nat=>Value.int .u64 (x:Int))))]) og20_7 _)).trans (List.perm_append_comm_assoc gr53 og20_7 _))) ?_
  refine Ca OG20_7 fun ρ55 l55 r55=>?_
  replace r2:=Arv l55 r2
  replace G53:=Grow.mono l55 G53
  apply Ac
  refine ⟨_,?_,((done ++ [x])),(ys),((De x)),v53,gr53,rfl,rfl,(Arz (Arz l20 l54) l55),rfl,h20_1,h20_3,h20_22,rfl,rfl,(by rw [p20_0,List.append_assoc]; rfl),(by rw [Jj,Sg (by first | exact .inl (Sp (by omega)) | exact .inr (by omega))]),(Ga (by rw [Jj,Sg (by first | exact .inl (Sp (by omega)) | exact .inr (by omega))]; rfl) G53),trivial⟩
  exact Nat.lt_succ_self _
 have q50:=La b50
 refine l_M (iV ((((De x):Nat):Int))) (Ar rfl rfl rfl b50) rfl ?_
 refine Aa (Ar rfl rfl rfl b50) (Ah (v:=(iV ((f:Int)))) h20_2) ?_
 refine Aa (Ar rfl rfl rfl b50) (Da (p:=(((De x):Nat):Int)) (q:=(f:Int)) rfl rfl) ?_
 refine Aa rfl (Bm rfl b50 (v:=(.bool (decide ((((De x):Nat):Int) < (f:Int))))) rfl) ?_
 apply Ac
 apply k48
 refine As (t:=decide ((((De x):Nat):Int) < (f:Int))) rfl (fun b56=>?_) (fun b56=>?_)
 ·have q56:=of_decide_eq_true b56
  refine Ag rfl rfl ?_
  refine l_M (iV ((((De x):Nat):Int))) rfl rfl ?_
  refine l_A (.slice none 0 0) rfl rfl ?_
  refine l_A (iV ((((De x):Nat):Int))) rfl rfl ?_
  apply Ac
  apply k47
  refine w_q rfl rfl fun K57 k57=>?_
  refine l_M (iV ((((De x):Nat):Int))) rfl rfl ?_
  refine l_M (iV ((((De x):Nat):Int))) rfl rfl ?_
  refine Aa rfl (Ek (p:=(((De x):Nat):Int)) (q:=(((De x):Nat):Int)) rfl rfl) ?_
  apply Ac
  apply k57
  refine Co rfl (beq_self_eq_true _) ?_
  refine Ag rfl rfl ?_
  refine l_M (.slice none 0 0) rfl rfl ?_
  refine l_M (.int .u64 ((x:Int))) rfl rfl ?_
  refine Ae rfl (Bi (α:=UW) (xs:=[(UW.mk x)]) (vs:=[(.int .u64 ((x:Int)))]) Tryd.underlying135 Yo Yk rfl (by decide) (Dl (os:=[.tmp 41]) ⟨rfl,trivial⟩) ⟨(Qz.2 rfl),trivial⟩ rfl (by decide) fun k58 cs58 R58=>?_)
  have G58:Grow ρ20 136 (.slice (some ⟨k58,0,none⟩) 1 1) ([(UW.mk x)]:List UW) [(k58,Res.obj (.cells cs58.toArray 136 (0,0)))]:=Bs R58 rfl (by decide)
  refine Ca G58 fun ρ60 l60 r60=>?_
  replace r2:=Arv l60 r2
  replace OG20_7:=Grow.mono l60 OG20_7
  refine Ae rfl (Fx (σ:=((k10,Res.recv (ys.map (fun x:Nat=>Value.int .u64 (x:Int)))) :: (og20_7 ++ σ))) (gr:=[]) (xs:=[]) (ys:=([(UW.mk x)]:List UW)) Tryd.underlying135 Tryd.underlying135 (Ab Tryd.typeInfo136) rfl (Nat.le_of_ble_eq_true rfl) rfl rfl rfl rfl (Hn (α:=UW) (el:=136)) r60 (by simp only [List.length_append,List.length_cons,List.length_nil,List.length_map,List.length_range] at *; omega) fun v59 gr59 G59=>?_)
  refine l_A v59 rfl rfl ?_
  refine Bj (σ':=(og20_7 ++ (gr59 ++ ((k10,Res.recv (ys.map (fun x:Nat=>Value.int .u64 (x:Int)))) :: σ)))) (Arx ((List.Perm.append_left gr59 (List.perm_append_comm_assoc ([(k10,Res.recv (ys.map (fun x:Nat=>Value.int .u64 (x:Int))))]) og20_7 _)).trans (List.perm_append_comm_assoc gr59 og20_7 _))) ?_
  refine Ca OG20_7 fun ρ61 l61 r61=>?_
  replace r2:=Arv l61 r2
  replace G59:=Grow.mono l61 G59
  apply Ac
  refine ⟨_,?_,((done ++ [x])),(ys),((De x)),v59,gr59,rfl,rfl,(Arz (Arz l20 l60) l61),rfl,h20_1,h20_3,h20_22,rfl,rfl,(by rw [p20_0,List.append_assoc]; rfl),(by rw [Jj,Sg (by first | exact .inl (Sp (by omega)) | exact .inr (by omega))]),(Ga (by rw [Jj,Sg (by first | exact .inl (Sp (by omega)) | exact .inr (by omega))]; rfl) G59),trivial⟩
  exact Nat.lt_succ_self _
 have q56:=of_decide_eq_false b56
 refine Al ?_
 apply k47
 refine w_q rfl rfl fun K62 k62=>?_
 refine l_M (iV ((((De x):Nat):Int))) rfl rfl ?_
 refine Aa rfl (Ah (v:=(iV ((f:Int)))) h20_2) ?_
 refine Aa rfl (Ek (p:=(((De x):Nat):Int)) (q:=(f:Int)) rfl rfl) ?_
 apply Ac
 apply k62
 refine As (t:=(((De x):Nat):Int) == (f:Int)) rfl (fun b63=>?_) (fun b63=>?_)
 ·have q63:=Jo b63
  refine Ag rfl rfl ?_
  refine Aa rfl (Ah (v:=ov20_7) h20_7) ?_
  refine l_M (.int .u64 ((x:Int))) rfl rfl ?_
  refine Ae rfl (Bi (α:=UW) (xs:=[(UW.mk x)]) (vs:=[(.int .u64 ((x:Int)))]) Tryd.underlying135 Yo Yk rfl (by decide) (Dl (os:=[.tmp 41]) ⟨rfl,trivial⟩) ⟨(Qz.2 rfl),trivial⟩ rfl (by decide) fun k64 cs64 R64=>?_)
  have G64:Grow ρ20 136 (.slice (some ⟨k64,0,none⟩) 1 1) ([(UW.mk x)]:List UW) [(k64,Res.obj (.cells cs64.toArray 136 (0,0)))]:=Bs R64 rfl (by decide)
  refine Ca G64 fun ρ66 l66 r66=>?_
  replace r2:=Arv l66 r2
  replace OG20_7:=Grow.mono l66 OG20_7
  refine Bj (σ':=(og20_7 ++ ((k10,Res.recv (ys.map (fun x:Nat=>Value.int .u64 (x:Int)))) :: σ))) (Arx (List.perm_append_comm_assoc ([(k10,Res.recv (ys.map (fun x:Nat=>Value.int .u64 (x:Int))))]) og20_7 _)) ?_
  refine Ae rfl (Fx (σ:=((k10,Res.recv (ys.map (fun x:Nat=>Value.int .u64 (x:Int)))) :: σ)) (gr:=og20_7) (xs:=uws (chF done).2) (ys:=([(UW.mk x)]:List UW)) Tryd.underlying135 Tryd.underlying135 (Ab Tryd.typeInfo136) rfl (Nat.le_of_ble_eq_true rfl) rfl rfl rfl rfl OG20_7 r66 (by simp only [List.length_append,List.length_cons,List.length_nil,List.length_map,List.length_range] at *; omega) fun v65 gr65 G65=>?_)
  refine l_A v65 rfl rfl ?_
  apply Ac
  refine ⟨_,?_,((done ++ [x])),(ys),(f),v65,gr65,rfl,rfl,(Arz l20 l66),rfl,h20_1,h20_3,h20_22,h20_2,rfl,(by rw [p20_0,List.append_assoc]; rfl),(by rw [Jj,Yb (by omega) (by omega) (by omega)]; exact p20_1),(Ga (by rw [Jj,Yb (by omega) (by omega) (by omega)]; exact Akz) G65),trivial⟩
  exact Nat.lt_succ_self _
 have q63:=La b63
 refine Aj (σ':=(og20_7 ++ ((k10,Res.recv (ys.map (fun x:Nat=>Value.int .u64 (x:Int)))) :: σ))) (Arx (List.perm_append_comm_assoc ([(k10,Res.recv (ys.map (fun x:Nat=>Value.int .u64 (x:Int))))]) og20_7 _)) ?_
 refine Al ?_
 refine ⟨_,?_,((done ++ [x])),(ys),(f),ov20_7,og20_7,rfl,rfl,l20,rfl,h20_1,h20_3,h20_22,h20_2,h20_7,(by rw [p20_0,List.append_assoc]; rfl),(by rw [Jj,Xw (by omega) (by omega) (by omega)]; exact p20_1),(Ga (by rw [Jj,Xw (by omega) (by omega) (by omega)]) OG20_7),trivial⟩
 exact Nat.lt_succ_self _
end Go.Proofs.YtoefdnbaklajeaaDoor

namespace Go.Proofs.YtoefdnbaklajeaaDoor
open Go
def rsT:List Found:=[⟨0,false⟩,⟨2,true⟩]
def m1T:List Span:=[⟨12,14⟩,⟨6,7⟩]
def m2T:List Span:=[⟨25,25⟩,⟨6,6⟩]
theorem tF:Cw Ts rsT = 0:=by decide +kernel
theorem tB:Sk Ts rsT = [2,1,0]:=by decide +kernel
theorem tF2:Cw Ts [] = 0:=by decide +kernel
theorem tTD:Xx Ts [] = 3:=by decide +kernel
theorem tTB:Yl Ts [] = true:=by decide +kernel
theorem tTL:Za Ts [] = [⟨0,-1,1⟩,⟨1,-1,2⟩,⟨2,-1,-1⟩]:=by decide +kernel
theorem tMF:Ch Ff = 0:=by decide +kernel
theorem tEG:Aik Ff = 30:=by decide +kernel
theorem tEL:Aje Ff = [0,1]:=by decide +kernel
theorem tCI:Akj Ff = 1:=by decide +kernel
theorem tCL:Alc Ff = [2,1,2]:=by decide +kernel
theorem tOF:Sq Ff m1T = 0:=by decide +kernel
theorem tOL:Sj Ff m1T = [0]:=by decide +kernel
theorem tAF:Ee Ff m2T = 0:=by decide +kernel
theorem tBO:Qx Ff m2T = some (0,1,25):=by decide +kernel
theorem tBV:Rh Ff m2T = .tuple #[.int .i64 0,.int .i64 1,.int .i64 25,.bool true,.int .i64 0]:=by
 unfold Rh; rw [if_pos tAF,tBO]; rfl
section
variable {mn:Bool} {X:Frame→List Frame→Ro→Own→Cy→Prop} {ρ:Ro} {σ:Own}
theorem Acb {vl vr:Value} (hg:Glob ρ) (rl:Val ρ vl Ts) (rr:Val ρ vr rsT):CallsH (CX mn X) 25 #[vl,vr] ρ σ (fun w ρ' σ'=>Ro.le ρ ρ'∧σ' = σ∧∃ v0,w = .tuple #[v0,.int .i64 0]∧Val ρ' v0 ([2,1,0]:List Int)):=by
 have h:=Aec (mn:=mn) (X:=X) (σ:=σ) hg rl rr; rw [tF,tB] at h; exact h
theorem Akw {vl vr:Value} (hg:Glob ρ) (rl:Val ρ vl Ts) (rr:Val ρ vr ([]:List Found)):CallsH (CX mn X) 26 #[vl,vr] ρ σ (fun w ρ' σ'=>Ro.le ρ ρ'∧σ' = σ∧∃ v0,w = .tuple #[v0,.int .i64 3,.bool true,.int .i64 0]∧Val ρ' v0 ([⟨0,-1,1⟩,⟨1,-1,2⟩,⟨2,-1,-1⟩]:List FNode)):=by
 have h:=Anu (mn:=mn) (X:=X) (σ:=σ) hg rl rr; rw [tF2,tTD,tTB,tTL] at h; exact h
theorem Agb {vm:Value} (rm:Val ρ vm Ff):CallsH (CX mn X) 32 #[vm] ρ σ (fun w ρ' σ'=>Ro.le ρ ρ'∧σ' = σ∧∃ v0,w = .tuple #[.int .i64 30,v0,.int .i64 0]∧Val ρ' v0 ([0,1]:List Int)):=by
 have h:=Aek (mn:=mn) (X:=X) (σ:=σ) rm; rw [tMF,tEG,tEL] at h; exact h
theorem Ael {vm:Value} (rm:Val ρ vm Ff) (hnr:Js σ):CallsH (CX true (Acu Tryd.prog)) 31 #[vm] ρ σ (fun w ρ' σ'=>Ro.le ρ ρ'∧σ' = σ∧∃ v0,w = .tuple #[.int .i64 1,v0,.int .i64 0]∧Val ρ' v0 ([2,1,2]:List Int)):=by
 have h:=Aio (σ:=σ) rm hnr; rw [tMF,tCI,tCL] at h; exact h
theorem Afv {vm vk:Value} (rm:Val ρ vm Ff) (rk:Val ρ vk m1T):CallsH (CX mn X) 18 #[vm,vk] ρ σ (fun w ρ' σ'=>Ro.le ρ ρ'∧σ' = σ∧∃ v0,w = .tuple #[v0,.int .i64 0]∧Val ρ' v0 ([0]:List Int)):=by
 have h:=Ajp (mn:=mn) (X:=X) (σ:=σ) rm rk; rw [tOF,tOL] at h; exact h
theorem Aiu {vm vk:Value} (rm:Val ρ vm Ff) (rk:Val ρ vk m2T):CallsH (CX mn X) 21 #[vm,vk] ρ σ (fun w ρ' σ'=>ρ' = ρ∧σ' = σ∧w = .tuple #[.int .i64 0,.int .i64 1,.int .i64 25,.bool true,.int .i64 0]):=by
 have h:=Alp (mn:=mn) (X:=X) (σ:=σ) rm rk; rw [tBV] at h; exact h
end
set_option maxHeartbeats 2000000 in
set_option maxRecDepth 100000 in
theorem c_tells  {ρ:Ro} {σ:Own}  (hg:Glob ρ) (hnr:Js σ):CallsH (CX true (Acu Tryd.prog)) 17 #[] ρ σ (fun w ρ' σ'=>ρ' = ρ∧σ' = σ∧w = (.bool (true))):=by
 refine Bh (n:=150) (args:=[]) [0] Tryd.func17 rfl rfl rfl rfl fun Q hret hnor=>?_
 refine w_q rfl rfl fun K1 k1=>?_
 refine l_A (.bool (false)) rfl rfl ?_
 apply Ac
 apply k1
 refine w_q rfl rfl fun K2 k2=>?_
 refine Ae rfl (Cm (vs:=[]) (Ano) Tryd.func59 rfl rfl trivial fun v3 ρ3 σ3 hc3=>?_)
 obtain ⟨l3,s3,r3⟩:=hc3
 replace s3:=s3.symm; subst s3
 replace hg:=Glob.mono l3 hg
 refine Ae rfl (Cm (vs:=[]) (Aea) Tryd.func60 rfl rfl trivial fun v4 ρ4 σ4 hc4=>?_)
 obtain ⟨l4,s4,r4⟩:=hc4
 replace s4:=s4.symm; subst s4
 replace hg:=Glob.mono l4 hg
 replace r3:=Asa l4 r3
 refine Ae rfl (Ct Anm fun k5=>?_)
 refine Ae rfl (Ct Aoj fun k6=>?_)
 refine Bj (σ':=((k5,Res.obj (Obj.cells (Alg).toArray 40 (0,0))) :: ((k6,Res.obj (Obj.cells (Aml).toArray 26 (0,0))) :: σ))) (Arx (List.perm_append_comm_assoc ([(k6,Res.obj (Obj.cells (Aml).toArray 26 (0,0)))]) ([(k5,Res.obj (Obj.cells (Alg).toArray 40 (0,0)))]) _)) ?_
 refine Cx rfl (Du (v:=v3) (a:=Ts) (c:=Alg) Aaj rfl rfl r3 rfl ?_)
 refine Bb (a:=Ts) r3 fun ρ7 l7 r7=>?_
 replace hg:=Glob.mono l7 hg
 replace r3:=Asa l7 r3
 replace r4:=Asa l7 r4
 refine Cx rfl (Du (v:=v4) (a:=Ff) (c:=Aml) Lj rfl rfl r4 rfl ?_)
 refine Bb (a:=Ff) r4 fun ρ8 l8 r8=>?_
 replace hg:=Glob.mono l8 hg
 replace r3:=Asa l8 r3
 replace r4:=Asa l8 r4
 replace r7:=Arv l8 r7
 apply Ac
 apply k2
 refine w_q rfl rfl fun K9 k9=>?_
 refine Ak rfl (Ax Aaj rfl r7) fun v10 r10=>?_
 have r11:Val ρ8 (.agg #[(iV (0)),(.bool (false))]) (⟨0,false⟩:Found):=Found.shut (x:=(⟨0,false⟩:Found)) (show I64 (0) from by constructor <;> omega)
 refine Aa rfl (Dm (ns:=[1,1]) (vs:=[]) (zc:=Alq) (cs:=[(iV (0)),(.bool (false))]) Tryd.underlying43 Ahd rfl ⟨⟨_,Ab Tryd.typeInfo3,rfl⟩,⟨_,Ab Tryd.typeInfo4,rfl⟩,trivial⟩ (EvB.map trivial) rfl) ?_
 have r12:Val ρ8 (.agg #[(iV (2)),(.bool (true))]) (⟨2,true⟩:Found):=Found.shut (x:=(⟨2,true⟩:Found)) (show I64 (2) from by constructor <;> omega)
 refine Aa rfl (Dm (ns:=[1,1]) (vs:=[(0,(iV (2))),(1,(.bool (true)))]) (zc:=Alq) (cs:=[(iV (2)),(.bool (true))]) Tryd.underlying43 Ahd rfl ⟨⟨_,Ab Tryd.typeInfo3,rfl⟩,⟨_,Ab Tryd.typeInfo4,rfl⟩,trivial⟩ (EvB.map ⟨⟨rfl,rfl⟩,⟨rfl,rfl⟩,trivial⟩) ((Bd (cs:=[(iV (2))]) rfl rfl (Nat.le_of_ble_eq_true rfl)).trans ((Bd (cs:=[(.bool (true))]) rfl rfl (Nat.le_of_ble_eq_true rfl)).trans rfl))) ?_
 refine Ae rfl (Bi (α:=Found) (xs:=[(⟨0,false⟩:Found),(⟨2,true⟩:Found)]) (vs:=[(.agg #[(iV (0)),(.bool (false))]),(.agg #[(iV (2)),(.bool (true))])]) Tryd.underlying41 Aax Ahd rfl (by decide) (Dl (os:=[.tmp 26,.tmp 27]) ⟨rfl,rfl,trivial⟩) ⟨r11,r12,trivial⟩ rfl (by decide) fun k13 cs13 R13=>?_)
 have G13:Grow ρ8 43 (.slice (some ⟨k13,0,none⟩) 2 2) ([(⟨0,false⟩:Found),(⟨2,true⟩:Found)]:List Found) [(k13,Res.obj (.cells cs13.toArray 43 (0,0)))]:=Bs R13 rfl (by decide)
 refine Ca G13 fun ρ14 l14 r14=>?_
 replace hg:=Glob.mono l14 hg
 replace r7:=Arv l14 r7
 replace r8:=Arv l14 r8
 replace r10:=Asa l14 r10
 replace r11:=Asa l14 r11
 replace r12:=Asa l14 r12
 refine Ae rfl (Cm (vs:=[v10,(.slice (some ⟨k13,0,none⟩) 2 2)]) (Acb hg r10 r14) Tryd.func25 rfl rfl ⟨rfl,rfl,trivial⟩ fun w15 ρ15 σ15 hc15=>?_)
 obtain ⟨l15,s15,v15_0,w15e,r15_0⟩:=hc15
 replace s15:=s15.symm; subst s15 w15e
 replace hg:=Glob.mono l15 hg
 replace r7:=Arv l15 r7
 replace r8:=Arv l15 r8
 replace r10:=Asa l15 r10
 replace r11:=Asa l15 r11
 replace r12:=Asa l15 r12
 replace r14:=Asa l15 r14
 refine l_M (.tuple #[v15_0,(iV (0))]) rfl rfl ?_
 refine Aa rfl (Bk (vs:=#[v15_0,(iV (0))]) rfl (v:=v15_0) rfl) ?_
 refine Aa rfl (Bk (vs:=#[v15_0,(iV (0))]) rfl (v:=(iV (0))) rfl) ?_
 refine l_A v15_0 rfl rfl ?_
 refine l_A (iV (0)) rfl rfl ?_
 apply Ac
 apply k9
 refine w_q rfl rfl fun K16 k16=>?_
 refine Ak rfl (Ax Aaj rfl r7) fun v17 r17=>?_
 refine Ae rfl (Cm (vs:=[v17,(.slice none 0 0)]) (Akw hg r17 Gx) Tryd.func26 rfl rfl ⟨rfl,rfl,trivial⟩ fun w18 ρ18 σ18 hc18=>?_)
 obtain ⟨l18,s18,v18_0,w18e,r18_0⟩:=hc18
 replace s18:=s18.symm; subst s18 w18e
 replace hg:=Glob.mono l18 hg
 replace r7:=Arv l18 r7
 replace r8:=Arv l18 r8
 replace r15_0:=Asa l18 r15_0
 replace r17:=Asa l18 r17
 refine l_M (.tuple #[v18_0,(iV (3)),(.bool (true)),(iV (0))]) rfl rfl ?_
 refine Aa rfl (Bk (vs:=#[v18_0,(iV (3)),(.bool (true)),(iV (0))]) rfl (v:=v18_0) rfl) ?_
 refine Aa rfl (Bk (vs:=#[v18_0,(iV (3)),(.bool (true)),(iV (0))]) rfl (v:=(iV (3))) rfl) ?_
 refine Aa rfl (Bk (vs:=#[v18_0,(iV (3)),(.bool (true)),(iV (0))]) rfl (v:=(.bool (true))) rfl) ?_
 refine Aa rfl (Bk (vs:=#[v18_0,(iV (3)),(.bool (true)),(iV (0))]) rfl (v:=(iV (0))) rfl) ?_
 refine l_A v18_0 rfl rfl ?_
 refine l_A (iV (3)) rfl rfl ?_
 refine l_A (.bool (true)) rfl rfl ?_
 refine l_A (iV (0)) rfl rfl ?_
 apply Ac
 apply k16
 refine w_q rfl rfl fun K19 k19=>?_
 refine Ak rfl (Ax Lj rfl r8) fun v20 r20=>?_
 refine Ae rfl (Cm (vs:=[v20]) (Agb r20) Tryd.func32 rfl rfl ⟨rfl,trivial⟩ fun w21 ρ21 σ21 hc21=>?_)
 obtain ⟨l21,s21,v21_0,w21e,r21_0⟩:=hc21
 replace s21:=s21.symm; subst s21 w21e
 replace hg:=Glob.mono l21 hg
 replace r8:=Arv l21 r8
 replace r15_0:=Asa l21 r15_0
 replace r18_0:=Asa l21 r18_0
 replace r20:=Asa l21 r20
 refine l_M (.tuple #[(iV (30)),v21_0,(iV (0))]) rfl rfl ?_
 refine Aa rfl (Bk (vs:=#[(iV (30)),v21_0,(iV (0))]) rfl (v:=(iV (30))) rfl) ?_
 refine Aa rfl (Bk (vs:=#[(iV (30)),v21_0,(iV (0))]) rfl (v:=v21_0) rfl) ?_
 refine Aa rfl (Bk (vs:=#[(iV (30)),v21_0,(iV (0))]) rfl (v:=(iV (0))) rfl) ?_
 refine l_A (iV (30)) rfl rfl ?_
 refine l_A v21_0 rfl rfl ?_
 refine l_A (iV (0)) rfl rfl ?_
 apply Ac
 apply k19
 refine w_q rfl rfl fun K22 k22=>?_
 refine Ak rfl (Ax Lj rfl r8) fun v23 r23=>?_
 refine Ae rfl (Cm (vs:=[v23]) (Ael r23 hnr) Tryd.func31 rfl rfl ⟨rfl,trivial⟩ fun w24 ρ24 σ24 hc24=>?_)
 obtain ⟨l24,s24,v24_0,w24e,r24_0⟩:=hc24
 replace s24:=s24.symm; subst s24 w24e
 replace hg:=Glob.mono l24 hg
 replace r8:=Arv l24 r8
 replace r15_0:=Asa l24 r15_0
 replace r18_0:=Asa l24 r18_0
 replace r21_0:=Asa l24 r21_0
 replace r23:=Asa l24 r23
 refine l_M (.tuple #[(iV (1)),v24_0,(iV (0))]) rfl rfl ?_
 refine Aa rfl (Bk (vs:=#[(iV (1)),v24_0,(iV (0))]) rfl (v:=(iV (1))) rfl) ?_
 refine Aa rfl (Bk (vs:=#[(iV (1)),v24_0,(iV (0))]) rfl (v:=v24_0) rfl) ?_
 refine Aa rfl (Bk (vs:=#[(iV (1)),v24_0,(iV (0))]) rfl (v:=(iV (0))) rfl) ?_
 refine l_A (iV (1)) rfl rfl ?_
 refine l_A v24_0 rfl rfl ?_
 refine l_A (iV (0)) rfl rfl ?_
 apply Ac
 apply k22
 refine Ai fun K25 k25=>?_
 refine Dc [0,1,2,3,4,5,6,7,8,9] (by kernel_rfl) rfl rfl ?_
 refine Cd (i:=0) zZ7 rfl (by kernel_rfl) rfl Ary rfl (Ax Lj rfl r8) fun v26 r26=>?_
 refine Dj (i:=1) zZ8 rfl (by kernel_rfl) rfl rfl (Cm (vs:=[(iV (12)),(iV (14))]) (Hy (a:=12) (b:=14) (by constructor <;> omega) (by constructor <;> omega)) Tryd.func34 rfl rfl ⟨rfl,rfl,trivial⟩ fun v27 ρ27 σ27 hc27=>?_)
 obtain ⟨l27,s27,r27⟩:=hc27
 replace s27:=s27.symm; subst s27
 replace hg:=Glob.mono l27 hg
 replace r8:=Arv l27 r8
 replace r15_0:=Asa l27 r15_0
 replace r18_0:=Asa l27 r18_0
 replace r21_0:=Asa l27 r21_0
 replace r24_0:=Asa l27 r24_0
 replace r26:=Asa l27 r26
 refine ⟨l27,?_⟩
 refine Dj (i:=2) zZ9 rfl (by kernel_rfl) rfl rfl (Cm (vs:=[(iV (6)),(iV (7))]) (Hy (a:=6) (b:=7) (by constructor <;> omega) (by constructor <;> omega)) Tryd.func34 rfl rfl ⟨rfl,rfl,trivial⟩ fun v28 ρ28 σ28 hc28=>?_)
 obtain ⟨l28,s28,r28⟩:=hc28
 replace s28:=s28.symm; subst s28
 replace hg:=Glob.mono l28 hg
 replace r8:=Arv l28 r8
 replace r15_0:=Asa l28 r15_0
 replace r18_0:=Asa l28 r18_0
 replace r21_0:=Asa l28 r21_0
 replace r24_0:=Asa l28 r24_0
 replace r26:=Asa l28 r26
 replace r27:=Asa l28 r27
 refine ⟨(Arz l27 l28),?_⟩
 refine Dj (i:=3) Aoz rfl (by kernel_rfl) rfl rfl (Bi (α:=Span) (xs:=[(⟨12,14⟩:Span),(⟨6,7⟩:Span)]) (vs:=[v27,v28]) Tryd.underlying27 Mx Yn rfl (by decide) (Dl (os:=[.tmp 53,.tmp 54]) ⟨rfl,rfl,trivial⟩) ⟨r27,r28,trivial⟩ rfl (by decide) fun k29 cs29 R29=>⟨(Arz l27 l28),?_⟩)
 have G29:Grow ρ28 65 (.slice (some ⟨k29,0,none⟩) 2 2) ([(⟨12,14⟩:Span),(⟨6,7⟩:Span)]:List Span) [(k29,Res.obj (.cells cs29.toArray 65 (0,0)))]:=Bs R29 rfl (by decide)
 refine Ls G29 fun ρ30 l30 r30=>?_
 replace hg:=Glob.mono l30 hg
 replace r8:=Arv l30 r8
 replace r15_0:=Asa l30 r15_0
 replace r18_0:=Asa l30 r18_0
 replace r21_0:=Asa l30 r21_0
 replace r24_0:=Asa l30 r24_0
 replace r26:=Asa l30 r26
 replace r27:=Asa l30 r27
 replace r28:=Asa l30 r28
 refine Dj (i:=4) Aol rfl (by kernel_rfl) rfl rfl (Cm (vs:=[v26,(.slice (some ⟨k29,0,none⟩) 2 2)]) (Afv r26 r30) Tryd.func18 rfl rfl ⟨rfl,rfl,trivial⟩ fun w31 ρ31 σ31 hc31=>?_)
 obtain ⟨l31,s31,v31_0,w31e,r31_0⟩:=hc31
 replace s31:=s31.symm; subst s31 w31e
 replace hg:=Glob.mono l31 hg
 replace r8:=Arv l31 r8
 replace r15_0:=Asa l31 r15_0
 replace r18_0:=Asa l31 r18_0
 replace r21_0:=Asa l31 r21_0
 replace r24_0:=Asa l31 r24_0
 replace r26:=Asa l31 r26
 replace r27:=Asa l31 r27
 replace r28:=Asa l31 r28
 replace r30:=Asa l31 r30
 refine ⟨(Arz (Arz (Arz l27 l28) l30) l31),?_⟩
 refine Bg (i:=5) [o1,o1,o1,o1,o1,o1,o0,o0,o0,o0] rfl (by kernel_rfl) rfl (Arz (Arz (Arz l27 l28) l30) l31) rfl (Ah (v:=(.tuple #[v31_0,(iV (0))])) rfl) ?_
 refine Qq (by kernel_rfl) (Arz (Arz (Arz l27 l28) l30) l31) Ary ?_
 refine Be (i:=6) Ajy rfl (by kernel_rfl) rfl Ary rfl (Bk (vs:=#[v31_0,(iV (0))]) rfl (v:=v31_0) rfl) ?_
 refine Be (i:=7) Aho rfl (by kernel_rfl) rfl Ary rfl (Bk (vs:=#[v31_0,(iV (0))]) rfl (v:=(iV (0))) rfl) ?_
 refine Bg (i:=8) Aia rfl (by kernel_rfl) rfl Ary rfl (Cp (v:=v31_0) rfl) ?_
 refine Bg (i:=9) Aiz rfl (by kernel_rfl) rfl Ary rfl (Cp (v:=(iV (0))) rfl) ?_
 refine Ec rfl ?_
 apply k25
 refine Ai fun K32 k32=>?_
 refine Dc [0,1,2,3,4,5,6,7,8,9,10,11,12,13,14,15] (by kernel_rfl) rfl rfl ?_
 refine Cd (i:=0) Apx rfl (by kernel_rfl) rfl Ary rfl (Ax Lj rfl r8) fun v33 r33=>?_
 refine Dj (i:=1) Arn rfl (by kernel_rfl) rfl rfl (Cm (vs:=[(iV (25)),(iV (25))]) (Hy (a:=25) (b:=25) (by constructor <;> omega) (by constructor <;> omega)) Tryd.func34 rfl rfl ⟨rfl,rfl,trivial⟩ fun v34 ρ34 σ34 hc34=>?_)
 obtain ⟨l34,s34,r34⟩:=hc34
 replace s34:=s34.symm; subst s34
 replace hg:=Glob.mono l34 hg
 replace r8:=Arv l34 r8
 replace r15_0:=Asa l34 r15_0
 replace r18_0:=Asa l34 r18_0
 replace r21_0:=Asa l34 r21_0
 replace r24_0:=Asa l34 r24_0
 replace r31_0:=Asa l34 r31_0
 replace r33:=Asa l34 r33
 refine ⟨l34,?_⟩
 refine Dj (i:=2) Aqz rfl (by kernel_rfl) rfl rfl (Cm (vs:=[(iV (6)),(iV (6))]) (Hy (a:=6) (b:=6) (by constructor <;> omega) (by constructor <;> omega)) Tryd.func34 rfl rfl ⟨rfl,rfl,trivial⟩ fun v35 ρ35 σ35 hc35=>?_)
 obtain ⟨l35,s35,r35⟩:=hc35
 replace s35:=s35.symm; subst s35
 replace hg:=Glob.mono l35 hg
 replace r8:=Arv l35 r8
 replace r15_0:=Asa l35 r15_0
 replace r18_0:=Asa l35 r18_0
 replace r21_0:=Asa l35 r21_0
 replace r24_0:=Asa l35 r24_0
 replace r31_0:=Asa l35 r31_0
 replace r33:=Asa l35 r33
 replace r34:=Asa l35 r34
 refine ⟨(Arz l34 l35),?_⟩
 refine Dj (i:=3) Arc rfl (by kernel_rfl) rfl rfl (Bi (α:=Span) (xs:=[(⟨25,25⟩:Span),(⟨6,6⟩:Span)]) (vs:=[v34,v35]) Tryd.underlying27 Mx Yn rfl (by decide) (Dl (os:=[.tmp 61,.tmp 62]) ⟨rfl,rfl,trivial⟩) ⟨r34,r35,trivial⟩ rfl (by decide) fun k36 cs36 R36=>⟨(Arz l34 l35),?_⟩)
 have G36:Grow ρ35 65 (.slice (some ⟨k36,0,none⟩) 2 2) ([(⟨25,25⟩:Span),(⟨6,6⟩:Span)]:List Span) [(k36,Res.obj (.cells cs36.toArray 65 (0,0)))]:=Bs R36 rfl (by decide)
 refine Ls G36 fun ρ37 l37 r37=>?_
 replace hg:=Glob.mono l37 hg
 replace r8:=Arv l37 r8
 replace r15_0:=Asa l37 r15_0
 replace r18_0:=Asa l37 r18_0
 replace r21_0:=Asa l37 r21_0
 replace r24_0:=Asa l37 r24_0
 replace r31_0:=Asa l37 r31_0
 replace r33:=Asa l37 r33
 replace r34:=Asa l37 r34
 replace r35:=Asa l37 r35
 refine Dj (i:=4) Ark rfl (by kernel_rfl) rfl rfl (Bn (vs:=[v33,(.slice (some ⟨k36,0,none⟩) 2 2)]) (v:=(.tuple #[(iV (0)),(iV (1)),(iV (25)),(.bool (true)),(iV (0))])) (Aiu r33 r37) Tryd.func21 rfl rfl ⟨rfl,rfl,trivial⟩ ⟨(Arz (Arz l34 l35) l37),?_⟩)
 refine Bg (i:=5) Aqg rfl (by kernel_rfl) rfl (Arz (Arz l34 l35) l37) rfl (Ah (v:=(.tuple #[(iV (0)),(iV (1)),(iV (25)),(.bool (true)),(iV (0))])) rfl) ?_
 refine Qq (by kernel_rfl) (Arz (Arz l34 l35) l37) Ary ?_
 refine Be (i:=6) Aqb rfl (by kernel_rfl) rfl Ary rfl (Bk (vs:=#[(iV (0)),(iV (1)),(iV (25)),(.bool (true)),(iV (0))]) rfl (v:=(iV (0))) rfl) ?_
 refine Be (i:=7) Aoa rfl (by kernel_rfl) rfl Ary rfl (Bk (vs:=#[(iV (0)),(iV (1)),(iV (25)),(.bool (true)),(iV (0))]) rfl (v:=(iV (1))) rfl) ?_
 refine Be (i:=8) Amy rfl (by kernel_rfl) rfl Ary rfl (Bk (vs:=#[(iV (0)),(iV (1)),(iV (25)),(.bool (true)),(iV (0))]) rfl (v:=(iV (25))) rfl) ?_
 refine Be (i:=9) Anr rfl (by kernel_rfl) rfl Ary rfl (Bk (vs:=#[(iV (0)),(iV (1)),(iV (25)),(.bool (true)),(iV (0))]) rfl (v:=(.bool (true))) rfl) ?_
 refine Be (i:=10) [o1,o1,o1,o1,o1,o1,o1,o1,o1,o1,o1,o0,o0,o0,o0,o0] rfl (by kernel_rfl) rfl Ary rfl (Bk (vs:=#[(iV (0)),(iV (1)),(iV (25)),(.bool (true)),(iV (0))]) rfl (v:=(iV (0))) rfl) ?_
 refine Bg (i:=11) [o1,o1,o1,o1,o1,o1,o1,o1,o1,o1,o1,o1,o0,o0,o0,o0] rfl (by kernel_rfl) rfl Ary rfl (Cp (v:=(iV (0))) rfl) ?_
 refine Bg (i:=12) Ans rfl (by kernel_rfl) rfl Ary rfl (Cp (v:=(iV (1))) rfl) ?_
 refine Bg (i:=13) Apc rfl (by kernel_rfl) rfl Ary rfl (Cp (v:=(iV (25))) rfl) ?_
 refine Bg (i:=14) Amv rfl (by kernel_rfl) rfl Ary rfl (Cp (v:=(.bool (true))) rfl) ?_
 refine Bg (i:=15) Apa rfl (by kernel_rfl) rfl Ary rfl (Cp (v:=(iV (0))) rfl) ?_
 refine Ec rfl ?_
 apply k32
 refine Ai fun K38 k38=>?_
 refine w_q rfl rfl fun K39 k39=>?_
 refine l_M (iV (0)) rfl rfl ?_
 refine Aa rfl (Dg (p:=0) (q:=0) rfl rfl) ?_
 refine l_M (.bool (false)) rfl rfl ?_
 refine l_M (iV (0)) (Ar rfl rfl rfl rfl) rfl ?_
 refine Aa (Ar rfl rfl rfl rfl) (Dg (p:=0) (q:=0) rfl rfl) ?_
 refine Aa rfl (Bm rfl rfl (v:=(.bool (false))) rfl) ?_
 refine l_M (.bool (false)) rfl rfl ?_
 refine l_M (iV (0)) (Ar rfl rfl rfl rfl) rfl ?_
 refine Aa (Ar rfl rfl rfl rfl) (Dg (p:=0) (q:=0) rfl rfl) ?_
 refine Aa rfl (Bm rfl rfl (v:=(.bool (false))) rfl) ?_
 refine l_M (.bool (false)) rfl rfl ?_
 refine l_M (iV (0)) (Ar rfl rfl rfl rfl) rfl ?_
 refine Aa (Ar rfl rfl rfl rfl) (Dg (p:=0) (q:=0) rfl rfl) ?_
 refine Aa rfl (Bm rfl rfl (v:=(.bool (false))) rfl) ?_
 refine l_M (.bool (false)) rfl rfl ?_
 refine l_M (iV (0)) (Ar rfl rfl rfl rfl) rfl ?_
 refine Aa (Ar rfl rfl rfl rfl) (Dg (p:=0) (q:=0) rfl rfl) ?_
 refine Aa rfl (Bm rfl rfl (v:=(.bool (false))) rfl) ?_
 refine l_M (.bool (false)) rfl rfl ?_
 refine l_M (iV (0)) (Ar rfl rfl rfl rfl) rfl ?_
 refine Aa (Ar rfl rfl rfl rfl) (Dg (p:=0) (q:=0) rfl rfl) ?_
 refine Aa rfl (Bm rfl rfl (v:=(.bool (false))) rfl) ?_
 refine l_M (.bool (false)) rfl rfl ?_
 refine l_M (.bool (true)) (Ar rfl rfl rfl rfl) rfl ?_
 refine Aa (Ar rfl rfl rfl rfl) (Ix (k:=true) rfl) ?_
 refine Aa rfl (Bm rfl rfl (v:=(.bool (!(true)))) rfl) ?_
 refine l_M (.bool (!(true))) rfl rfl ?_
 refine l_M (.bool (true)) (Ar rfl rfl rfl (not_t rfl)) rfl ?_
 refine Aa (Ar rfl rfl rfl (not_t rfl)) (Ix (k:=true) rfl) ?_
 refine Aa rfl (Bm rfl (not_t rfl) (v:=(.bool (!(true)))) rfl) ?_
 apply Ac
 apply k39
 refine Cg rfl (not_t rfl) ?_
 refine Al ?_
 apply k38
 refine Ai fun K40 k40=>?_
 refine w_q rfl rfl fun K41 k41=>?_
 refine l_M v15_0 rfl rfl ?_
 refine Ae rfl (Bi (α:=Int) (xs:=[2,1,0]) (vs:=[(iV (2)),(iV (1)),(iV (0))]) Tryd.underlying46 Ov Abg rfl (by decide) (Dl (os:=[.const (.int .i64 2),.const (.int .i64 1),.const (.int .i64 0)]) ⟨rfl,rfl,rfl,trivial⟩) ⟨(Cv.2 ⟨rfl,by constructor <;> omega⟩),(Cv.2 ⟨rfl,by constructor <;> omega⟩),(Cv.2 ⟨rfl,by constructor <;> omega⟩),trivial⟩ rfl (by decide) fun k42 cs42 R42=>?_)
 have G42:Grow ρ37 53 (.slice (some ⟨k42,0,none⟩) 3 3) ([2,1,0]:List Int) [(k42,Res.obj (.cells cs42.toArray 53 (0,0)))]:=Bs R42 rfl (by decide)
 refine Ca G42 fun ρ43 l43 r43=>?_
 replace hg:=Glob.mono l43 hg
 replace r15_0:=Asa l43 r15_0
 replace r18_0:=Asa l43 r18_0
 replace r21_0:=Asa l43 r21_0
 replace r24_0:=Asa l43 r24_0
 replace r31_0:=Asa l43 r31_0
 refine Ae rfl (Bn (vs:=[v15_0,(.slice (some ⟨k42,0,none⟩) 3 3)]) (v:=(.bool (decide (([2,1,0]:List Int) = ([2,1,0]:List Int))))) (Oo r15_0 r43) Tryd.func27 rfl rfl ⟨rfl,rfl,trivial⟩ ?_)
 refine Aa rfl (Ix (k:=decide (([2,1,0]:List Int) = ([2,1,0]:List Int))) rfl) ?_
 refine l_M (.bool (!(decide (([2,1,0]:List Int) = ([2,1,0]:List Int))))) rfl rfl ?_
 refine l_M (iV (3)) (Ar rfl rfl rfl (not_t (by decide))) rfl ?_
 refine Aa (Ar rfl rfl rfl (not_t (by decide))) (Dg (p:=3) (q:=3) rfl rfl) ?_
 refine Aa rfl (Bm rfl (not_t (by decide)) (v:=(.bool (false))) rfl) ?_
 refine l_M (.bool (false)) rfl rfl ?_
 refine l_M v18_0 (Ar rfl rfl rfl rfl) rfl ?_
 have r44:Val ρ43 (.agg #[(iV (0)),(iV ((-1))),(iV (1))]) (⟨0,(-1),1⟩:FNode):=FNode.shut (x:=(⟨0,(-1),1⟩:FNode)) (show I64 (0) from by constructor <;> omega) (show I64 ((-1)) from by constructor <;> omega) (show I64 (1) from by constructor <;> omega)
 refine Aa (Ar rfl rfl rfl rfl) (Dm (ns:=[1,1,1]) (vs:=[(1,(iV ((-1)))),(2,(iV (1)))]) (zc:=Aly) (cs:=[(iV (0)),(iV ((-1))),(iV (1))]) Tryd.underlying94 Aes rfl ⟨⟨_,Ab Tryd.typeInfo3,rfl⟩,⟨_,Ab Tryd.typeInfo3,rfl⟩,⟨_,Ab Tryd.typeInfo3,rfl⟩,trivial⟩ (EvB.map ⟨⟨rfl,rfl⟩,⟨rfl,rfl⟩,trivial⟩) ((Bd (cs:=[(iV ((-1)))]) rfl rfl (Nat.le_of_ble_eq_true rfl)).trans ((Bd (cs:=[(iV (1))]) rfl rfl (Nat.le_of_ble_eq_true rfl)).trans rfl))) ?_
 have r45:Val ρ43 (.agg #[(iV (1)),(iV ((-1))),(iV (2))]) (⟨1,(-1),2⟩:FNode):=FNode.shut (x:=(⟨1,(-1),2⟩:FNode)) (show I64 (1) from by constructor <;> omega) (show I64 ((-1)) from by constructor <;> omega) (show I64 (2) from by constructor <;> omega)
 refine Aa (Ar rfl rfl rfl rfl) (Dm (ns:=[1,1,1]) (vs:=[(0,(iV (1))),(1,(iV ((-1)))),(2,(iV (2)))]) (zc:=Aly) (cs:=[(iV (1)),(iV ((-1))),(iV (2))]) Tryd.underlying94 Aes rfl ⟨⟨_,Ab Tryd.typeInfo3,rfl⟩,⟨_,Ab Tryd.typeInfo3,rfl⟩,⟨_,Ab Tryd.typeInfo3,rfl⟩,trivial⟩ (EvB.map ⟨⟨rfl,rfl⟩,⟨rfl,rfl⟩,⟨rfl,rfl⟩,trivial⟩) ((Bd (cs:=[(iV (1))]) rfl rfl (Nat.le_of_ble_eq_true rfl)).trans ((Bd (cs:=[(iV ((-1)))]) rfl rfl (Nat.le_of_ble_eq_true rfl)).trans ((Bd (cs:=[(iV (2))]) rfl rfl (Nat.le_of_ble_eq_true rfl)).trans rfl)))) ?_
 have r46:Val ρ43 (.agg #[(iV (2)),(iV ((-1))),(iV ((-1)))]) (⟨2,(-1),(-1)⟩:FNode):=FNode.shut (x:=(⟨2,(-1),(-1)⟩:FNode)) (show I64 (2) from by constructor <;> omega) (show I64 ((-1)) from by constructor <;> omega) (show I64 ((-1)) from by constructor <;> omega)
 refine Aa (Ar rfl rfl rfl rfl) (Dm (ns:=[1,1,1]) (vs:=[(0,(iV (2))),(1,(iV ((-1)))),(2,(iV ((-1))))]) (zc:=Aly) (cs:=[(iV (2)),(iV ((-1))),(iV ((-1)))]) Tryd.underlying94 Aes rfl ⟨⟨_,Ab Tryd.typeInfo3,rfl⟩,⟨_,Ab Tryd.typeInfo3,rfl⟩,⟨_,Ab Tryd.typeInfo3,rfl⟩,trivial⟩ (EvB.map ⟨⟨rfl,rfl⟩,⟨rfl,rfl⟩,⟨rfl,rfl⟩,trivial⟩) ((Bd (cs:=[(iV (2))]) rfl rfl (Nat.le_of_ble_eq_true rfl)).trans ((Bd (cs:=[(iV ((-1)))]) rfl rfl (Nat.le_of_ble_eq_true rfl)).trans ((Bd (cs:=[(iV ((-1)))]) rfl rfl (Nat.le_of_ble_eq_true rfl)).trans rfl)))) ?_
 refine Ae (Ar rfl rfl rfl rfl) (Bi (α:=FNode) (xs:=[(⟨0,(-1),1⟩:FNode),(⟨1,(-1),2⟩:FNode),(⟨2,(-1),(-1)⟩:FNode)]) (vs:=[(.agg #[(iV (0)),(iV ((-1))),(iV (1))]),(.agg #[(iV (1)),(iV ((-1))),(iV (2))]),(.agg #[(iV (2)),(iV ((-1))),(iV ((-1)))])]) Tryd.underlying49 ty94 Aes rfl (by decide) (Dl (os:=[.tmp 110,.tmp 111,.tmp 112]) ⟨rfl,rfl,rfl,trivial⟩) ⟨r44,r45,r46,trivial⟩ rfl (by decide) fun k47 cs47 R47=>?_)
 have G47:Grow ρ43 94 (.slice (some ⟨k47,0,none⟩) 3 3) ([(⟨0,(-1),1⟩:FNode),(⟨1,(-1),2⟩:FNode),(⟨2,(-1),(-1)⟩:FNode)]:List FNode) [(k47,Res.obj (.cells cs47.toArray 94 (0,0)))]:=Bs R47 rfl (by decide)
 refine Ca G47 fun ρ48 l48 r48=>?_
 replace hg:=Glob.mono l48 hg
 replace r15_0:=Asa l48 r15_0
 replace r18_0:=Asa l48 r18_0
 replace r21_0:=Asa l48 r21_0
 replace r24_0:=Asa l48 r24_0
 replace r31_0:=Asa l48 r31_0
 replace r43:=Asa l48 r43
 replace r44:=Asa l48 r44
 replace r45:=Asa l48 r45
 replace r46:=Asa l48 r46
 refine Ae (Ar rfl rfl rfl rfl) (Bn (vs:=[v18_0,(.slice (some ⟨k47,0,none⟩) 3 3)]) (v:=(.bool ((([⟨0,-1,1⟩,⟨1,-1,2⟩,⟨2,-1,-1⟩]:List FNode)) == (([(⟨0,(-1),1⟩:FNode),(⟨1,(-1),2⟩:FNode),(⟨2,(-1),(-1)⟩:FNode)]:List FNode))))) (Aal r18_0 r48) Tryd.func51 rfl rfl ⟨rfl,rfl,trivial⟩ ?_)
 refine Aa (Ar rfl rfl rfl rfl) (Ix (k:=(([⟨0,-1,1⟩,⟨1,-1,2⟩,⟨2,-1,-1⟩]:List FNode)) == (([(⟨0,(-1),1⟩:FNode),(⟨1,(-1),2⟩:FNode),(⟨2,(-1),(-1)⟩:FNode)]:List FNode))) rfl) ?_
 refine Aa rfl (Bm rfl rfl (v:=(.bool (!((([⟨0,-1,1⟩,⟨1,-1,2⟩,⟨2,-1,-1⟩]:List FNode)) == (([(⟨0,(-1),1⟩:FNode),(⟨1,(-1),2⟩:FNode),(⟨2,(-1),(-1)⟩:FNode)]:List FNode)))))) rfl) ?_
 apply Ac
 apply k41
 refine Cg rfl (not_t (by decide)) ?_
 refine Al ?_
 apply k40
 refine w_q rfl rfl fun K49 k49=>?_
 refine l_M (iV (30)) rfl rfl ?_
 refine Aa rfl (Ek (p:=30) (q:=30) rfl rfl) ?_
 refine l_M (.bool (true)) rfl rfl ?_
 refine l_M v21_0 (Ar rfl rfl rfl rfl) rfl ?_
 refine Ae (Ar rfl rfl rfl rfl) (Bi (α:=Int) (xs:=[0,1]) (vs:=[(iV (0)),(iV (1))]) Tryd.underlying30 ty3 zr3 rfl (by decide) (Dl (os:=[.const (.int .i64 0),.const (.int .i64 1)]) ⟨rfl,rfl,trivial⟩) ⟨(Cv.2 ⟨rfl,by constructor <;> omega⟩),(Cv.2 ⟨rfl,by constructor <;> omega⟩),trivial⟩ rfl (by decide) fun k50 cs50 R50=>?_)
 have G50:Grow ρ48 3 (.slice (some ⟨k50,0,none⟩) 2 2) ([0,1]:List Int) [(k50,Res.obj (.cells cs50.toArray 3 (0,0)))]:=Bs R50 rfl (by decide)
 refine Ca G50 fun ρ51 l51 r51=>?_
 replace hg:=Glob.mono l51 hg
 replace r21_0:=Asa l51 r21_0
 replace r24_0:=Asa l51 r24_0
 replace r31_0:=Asa l51 r31_0
 refine Ae (Ar rfl rfl rfl rfl) (Bn (vs:=[v21_0,(.slice (some ⟨k50,0,none⟩) 2 2)]) (v:=(.bool (decide (([0,1]:List Int) = ([0,1]:List Int))))) (Agi r21_0 r51) Tryd.func20 rfl rfl ⟨rfl,rfl,trivial⟩ ?_)
 refine Aa rfl (Bt rfl rfl (v:=(.bool (decide (([0,1]:List Int) = ([0,1]:List Int))))) rfl) ?_
 refine l_M (.bool (decide (([0,1]:List Int) = ([0,1]:List Int)))) rfl rfl ?_
 refine l_M (iV (1)) (Ar rfl rfl rfl (by decide)) rfl ?_
 refine Aa (Ar rfl rfl rfl (by decide)) (Ek (p:=1) (q:=1) rfl rfl) ?_
 refine Aa rfl (Bt rfl (by decide) (v:=(.bool (true))) rfl) ?_
 refine l_M (.bool (true)) rfl rfl ?_
 refine l_M v24_0 (Ar rfl rfl rfl rfl) rfl ?_
 refine Ae (Ar rfl rfl rfl rfl) (Bi (α:=Int) (xs:=[2,1,2]) (vs:=[(iV (2)),(iV (1)),(iV (2))]) Tryd.underlying46 Ov Abg rfl (by decide) (Dl (os:=[.const (.int .i64 2),.const (.int .i64 1),.const (.int .i64 2)]) ⟨rfl,rfl,rfl,trivial⟩) ⟨(Cv.2 ⟨rfl,by constructor <;> omega⟩),(Cv.2 ⟨rfl,by constructor <;> omega⟩),(Cv.2 ⟨rfl,by constructor <;> omega⟩),trivial⟩ rfl (by decide) fun k52 cs52 R52=>?_)
 have G52:Grow ρ51 53 (.slice (some ⟨k52,0,none⟩) 3 3) ([2,1,2]:List Int) [(k52,Res.obj (.cells cs52.toArray 53 (0,0)))]:=Bs R52 rfl (by decide)
 refine Ca G52 fun ρ53 l53 r53=>?_
 replace hg:=Glob.mono l53 hg
 replace r21_0:=Asa l53 r21_0
 replace r24_0:=Asa l53 r24_0
 replace r31_0:=Asa l53 r31_0
 replace r51:=Asa l53 r51
 refine Ae (Ar rfl rfl rfl rfl) (Bn (vs:=[v24_0,(.slice (some ⟨k52,0,none⟩) 3 3)]) (v:=(.bool (decide (([2,1,2]:List Int) = ([2,1,2]:List Int))))) (Oo r24_0 r53) Tryd.func27 rfl rfl ⟨rfl,rfl,trivial⟩ ?_)
 refine Aa rfl (Bt rfl rfl (v:=(.bool (decide (([2,1,2]:List Int) = ([2,1,2]:List Int))))) rfl) ?_
 refine l_M (.bool (decide (([2,1,2]:List Int) = ([2,1,2]:List Int)))) rfl rfl ?_
 refine l_M v31_0 (Ar rfl rfl rfl (by decide)) rfl ?_
 refine Ae (Ar rfl rfl rfl (by decide)) (Bi (α:=Int) (xs:=[0]) (vs:=[(iV (0))]) Tryd.underlying30 ty3 zr3 rfl (by decide) (Dl (os:=[.const (.int .i64 0)]) ⟨rfl,trivial⟩) ⟨(Cv.2 ⟨rfl,by constructor <;> omega⟩),trivial⟩ rfl (by decide) fun k54 cs54 R54=>?_)
 have G54:Grow ρ53 3 (.slice (some ⟨k54,0,none⟩) 1 1) ([0]:List Int) [(k54,Res.obj (.cells cs54.toArray 3 (0,0)))]:=Bs R54 rfl (by decide)
 refine Ca G54 fun ρ55 l55 r55=>?_
 replace hg:=Glob.mono l55 hg
 replace r21_0:=Asa l55 r21_0
 replace r24_0:=Asa l55 r24_0
 replace r31_0:=Asa l55 r31_0
 replace r51:=Asa l55 r51
 replace r53:=Asa l55 r53
 refine Ae (Ar rfl rfl rfl (by decide)) (Bn (vs:=[v31_0,(.slice (some ⟨k54,0,none⟩) 1 1)]) (v:=(.bool (decide (([0]:List Int) = ([0]:List Int))))) (Agi r31_0 r55) Tryd.func20 rfl rfl ⟨rfl,rfl,trivial⟩ ?_)
 refine Aa rfl (Bt rfl (by decide) (v:=(.bool (decide (([0]:List Int) = ([0]:List Int))))) rfl) ?_
 refine l_M (.bool (decide (([0]:List Int) = ([0]:List Int)))) rfl rfl ?_
 refine l_M (iV (0)) (Ar rfl rfl rfl (by decide)) rfl ?_
 refine Aa (Ar rfl rfl rfl (by decide)) (Ek (p:=0) (q:=0) rfl rfl) ?_
 refine Aa rfl (Bt rfl (by decide) (v:=(.bool (true))) rfl) ?_
 refine l_M (.bool (true)) rfl rfl ?_
 refine l_M (iV (1)) (Ar rfl rfl rfl rfl) rfl ?_
 refine Aa (Ar rfl rfl rfl rfl) (Ek (p:=1) (q:=1) rfl rfl) ?_
 refine Aa rfl (Bt rfl rfl (v:=(.bool (true))) rfl) ?_
 refine l_M (.bool (true)) rfl rfl ?_
 refine l_M (iV (25)) (Ar rfl rfl rfl rfl) rfl ?_
 refine Aa (Ar rfl rfl rfl rfl) (Ek (p:=25) (q:=25) rfl rfl) ?_
 refine Aa rfl (Bt rfl rfl (v:=(.bool (true))) rfl) ?_
 refine l_A (.bool (true)) rfl rfl ?_
 apply Ac
 apply k49
 refine Aj (Arw (Arz (Arz (Arz (Arz (Arz (Arz (Arz (Arz (Arz (Arz (Arz (Arz (Arz (Arz (Arz (Arz (Arz (Arz (Arz (Arz l3 l4) l7) l8) l14) l15) l18) l21) l24) l27) l28) l30) l31) l34) l35) l37) l43) l48) l51) l53) l55)) ?_
 refine Aq ?_
 refine hret _ _ _ ?_
 refine ⟨rfl,rfl,Eq.trans (b:=(.bool (true))) rfl ?_⟩
 rfl
end Go.Proofs.YtoefdnbaklajeaaDoor

namespace Go.Proofs.YtoefdnbaklajeaaDoor
open Go Go.RowKit Go.Conc
/-- A function's body,walked from what it is given. -/
def Agv (C:Ctx) (f:FuncId) (r:Nat) (args:List Value) (ρ:Ro) (σ:Own) (R:Value→Ro→Own→Prop):Prop :=
  ∃ fn c,C.P.funcs[f]? = some fn∧fn.body = some c∧fn.results = #[.tmp r]∧args.length ≤ fn.ntmps ∧
    ∀ Q:Hv,(∀ e ρ' σ',R (e r) ρ' σ'→Q .ret e [] ρ' σ')→(∀ e ρ' σ',R (e r) ρ' σ'→Q .normal e [] ρ' σ')→WpC C ⟨f,.normal,none⟩ fn.ntmps c Q (Qb args) [] ρ σ
theorem body_fn {C:Ctx} {f:FuncId} {fn:Func} {c:Code} {n r:Nat} {args:List Value} {ρ:Ro} {σ:Own} {R:Value→Ro→Own→Prop} (hf:C.P.funcs[f]? = some fn) (hc:fn.body = some c) (hn:fn.ntmps = n) (ha:Nat.ble args.length n = true) (hr:fn.results = #[.tmp r])
    (h:∀ Q:Hv,(∀ e ρ' σ',R (e r) ρ' σ'→Q .ret e [] ρ' σ')→(∀ e ρ' σ',R (e r) ρ' σ'→Q .normal e [] ρ' σ')→WpC C ⟨f,.normal,none⟩ n c Q (Qb args) [] ρ σ):Agv C f r args ρ σ R :=
  ⟨fn,c,hf,hc,hr,hn ▸ Nat.le_of_ble_eq_true ha,hn ▸ h⟩
theorem Xy {P:Program} {f:FuncId} {r:Nat} {args:List Value} {ρ:Ro} {R:Value→Ro→Own→Prop} {W0:World} {Pst:Value→World→Prop} (h:Agv (Iu P) f r args ρ [] R) (hi:P.inits.idxOf? f = none)
    (hR:∀ v ρ' σ',R v ρ' σ'→σ' = []∧∀ W,Below W0.heap.size W0 W→Pst v W):GoesH (Iu P) (Aiy P W0 Pst) (Frame.enter P f args.toArray .normal) [] ρ []:=by
  obtain ⟨fn,c,hf,hc,hr,ha,hw⟩:=h
  have hf:P.funcs[f]? = some fn:=hf
  have e1:Frame.enter P f args.toArray .normal = Fr ⟨f,.normal,none⟩ (args.toArray ++ Array.replicate (fn.ntmps - args.toArray.size) undef) [] [.code c]:=by
    simp [Frame.enter,hf,hc,Fr]
  rw [e1]
  refine (hw (fun ex e ds ρ σ=>(∀ id,ex ≠ .exit id)∧ds = []∧R (e r) ρ σ) (fun e ρ' σ' h=>⟨fun id h=>(by cases h),rfl,h⟩) (fun e ρ' σ' h=>⟨fun id h=>(by cases h),rfl,h⟩) _ [] [] (Uj ha)).bind ?_
  rintro _ _ ρ' σ' ⟨rfl,ex,tm',e',ds',todo,h1,⟨h2,rfl,h3⟩,h4,rfl⟩
  obtain ⟨rfl,hp⟩:=hR _ _ _ h3
  have fin:∀ todo,GoesH (Iu P) (Aiy P W0 Pst) { Fr ⟨f,.normal,none⟩ tm' [] todo with mode:=.returning } [] ρ' []:=fun todo=>by
    refine .stop ⟨fun c vs hm=>(by cases hm),fun W hs hb _=>⟨e' r,W,#[],?_,fun ev hv=>by simp at hv,hp W hb⟩⟩
    have hrs:(results fn tm').runT P W #[] = (.ok (e' r) W,#[]):=by
      rw [← h1.2 r]
      unfold results; rw [hr,Array.mapM_eq_foldlM]; rfl
    simp [Conc.G,stepG,Fr,unwind,hf,-Sem.runT_eq,hrs,doReturn,hi,GStep.after,seen]
  cases ex with
  | normal =>
    cases h4
    exact Eh (fr':={ Fr ⟨f,.normal,none⟩ tm' [] [] with mode:=.returning }) (cs':=[]) (fun W=>by simp [Conc.G,stepG,stepG.exec,Fr]) (fin _)
  | exit id=>exact absurd rfl (h2 id)
  | ret =>
    obtain ⟨pre,rfl⟩:=h4
    exact Eh (fr':={ Fr ⟨f,.normal,none⟩ tm' [] (.code .ret :: (pre ++ [])) with mode:=.returning }) (cs':=[]) (fun W=>by simp [Conc.G,stepG,stepG.exec,Fr]) (fin _)
end Go.Proofs.YtoefdnbaklajeaaDoor

namespace Go.Proofs.YtoefdnbaklajeaaDoor
open Go Go.WideShapes
/-- What may be read of a world: all its blocks but channels. -/
def roW (W:World):Ro:=fun b=>match W.heap[b]? with
  | some o=>if o.isChan then none else some o
  | none=>none
theorem Anq {W:World} (b:Nat) (o:Obj) (h:roW W b = some o):W.heap[b]? = some o∧o.isChan = false:=by
  unfold roW at h
  cases hb:W.heap[b]? with
  | none=>rw [hb] at h; cases h
  | some o' =>
    rw [hb] at h
    simp only at h
    cases hc:o'.isChan with
    | true=>rw [hc] at h; cases h
    | false=>rw [hc] at h; simp at h; subst h; exact ⟨rfl,hc⟩
theorem Vs {W:World} {b t:Nat} {c:Array Value} {fz:Nat × Nat} (h:W.heap[b]? = some (.cells c t fz)):roW W b = some (.cells c t fz):=by
  unfold roW; rw [h]; rfl
/-- A type whose readings are data of this kind. -/
def Apq (α:Type) [Dat α] (t:TypeId):Prop :=
  Tryd.prog.cellsOf t = Dat.k α∧∀ (H:Type) (enc:TypeId × Value→H) (W:World) (fuel:Nat) (cs:List Value) (x:DataW H × List MemPlace),
    DataW.trod enc Tryd.prog W 0 (fun _=>true) true fuel t cs = some x→(∀ n ∈ x.1.weights Tryd.prog t,n ≤ reachBytes)→∃ a:α,Dat.rep (roW W) cs a
end Go.Proofs.YtoefdnbaklajeaaDoor
