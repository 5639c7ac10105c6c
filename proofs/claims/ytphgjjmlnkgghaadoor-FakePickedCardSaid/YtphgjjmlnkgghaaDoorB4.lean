/- Part 4 of what all laws of layer 8 need: a logic of programs that start goroutines, and what the functions yield. -/
import Derived.Test.YtphgjjmlnkgghaaDoorB3
import Derived.Conc.Quits
set_option linter.unusedVariables false
set_option linter.unusedSimpArgs false
set_option maxRecDepth 100000
namespace Go.Proofs.YtphgjjmlnkgghaaDoor
section
set_option maxHeartbeats 1000000
open Go
set_option maxHeartbeats 1000000 in
theorem Aeh {mn:Bool} {X:Frame→List Frame→Ro→Own→Cy→Prop} {ρ:Ro} {σ:Own} {m:Market} {vm:Value} (rm:Val ρ vm m):CallsH (CX mn X) 18 #[vm] ρ σ (fun w ρ' σ'=>Ro.le ρ ρ'∧σ' = σ∧∃ v0,w = (.tuple #[(iV (Ahr m)),v0,(iV (Cf m))])∧Val ρ' v0 (Ahs m:List Int)):=by
 refine Bh (n:=66) (args:=[vm]) [2,3,4] Tryd.func18 rfl rfl rfl rfl fun Q hret hnor=>w_q rfl rfl fun K1 k1=>Arv (Eb (v:=vm) rfl fun k2=>?_)
 refine Bb (a:=m) rm fun ρ2 l2 r2=>Lo (iV (0)) (Lo (nS) (Lo (iV (0)) (Ary rfl rfl k1 fun K3 K4 k3 k4=>Arw (Ax Ln rfl r2) fun v5 r5=>Arv (Bm (Js r5) Bll rfl rfl ⟨rfl,trivial⟩ ?_))))
 refine Lo (iV (Cf m)) (Arx rfl rfl k4 fun K6 k6=>Asf (iV (Cf m)) (l_v (Dg rfl rfl) (l_k k6 (Asg (t:=Cf m != 0) rfl (fun b7=>?_) (fun b7=>?_)))))
 ·have q7:=Ls b7
  refine w_q rfl rfl fun K8 k8=>Asf (iV (Cf m)) (Lo (iV (0)) (Lo (nS) (Lo (iV (Cf m)) (l_k k8 (Aq (hret _ _ _ (⟨l2,rfl,(nS),Eq.trans (b:=(.tuple #[(iV (0)),(nS),(iV (Cf m))])) (Mp (r:=2) (r':=3) (rs:=[4]) (v:=(iV (0))) (v':=(nS)) (vs:=[(iV (Cf m))]) ⟨rfl,rfl,rfl,trivial⟩) ?_,Val.cast ?_ Gx⟩)))))))
  ·rw [Ahr,if_neg q7]
  ·rw [Ahs,if_neg q7]
 have hm0:=Jh b7
 have ok:=Rg hm0
 have hn8:=ok.nsales
 have hpw:2 ^ m.sales.length ≤ 256:=(Nat.pow_le_pow_right (by omega) hn8:2 ^ m.sales.length ≤ 2 ^ 8)
 have hsh:1 <<< m.sales.length = 2 ^ m.sales.length:=Nat.one_shiftLeft _
 have hps:(0:Int) ≤ ((1 <<< m.sales.length:Nat):Int):=Int.natCast_nonneg _
 have q7:=Jh b7
 refine Al (k3 _ _ _ _ ?_)
 refine Ai fun K9 k9=>Atd (Asj 0 [o1,o0,o0,o0,o0,o0] rfl (Ax Ln rfl r2) fun v10 r10=>Asj 1 [o1,o1,o0,o0,o0,o0] rfl (Ax Ln rfl r2) fun v11 r11=>Acq (i:=2) (j:=4) [o1,o1,o1,o0,o0,o0] [o1,o1,o0,o0,o1,o0] rfl rfl (by kernel_rfl) rfl rfl rfl rfl ?_ ?_)
 ·refine Cm (vs:=[v11]) (Td r11 ok) Blm rfl rfl ⟨rfl,trivial⟩ fun v12 ρ12 σ12 hc12=>?_
  obtain ⟨l12,s12,r12⟩:=hc12
  replace s12:=s12.symm; subst s12
  replace r2:=Bmg l12 r2
  replace r10:=Bmo l12 r10
  refine ⟨l12,?_⟩
  refine Pm (by kernel_rfl) l12 Bml (Asj 3 [o1,o1,o1,o1,o0,o0] rfl (Rt rfl r10 rfl r12) fun v13 r13=>Asm 4 Bax rfl (Ct Ake fun k14=>⟨Bml,?_⟩))
  refine Asv 5 Bay rfl (Dv (v:=v13) (a:=(⟨m,⟨En m⟩⟩:GMarket)) (c:=Akc) Wk rfl rfl r13 rfl ⟨Bml,?_⟩)
  refine Ec rfl (k9 _ _ _ _ ?_)
  refine Nt (a:=(⟨m,⟨En m⟩⟩:GMarket)) r13 fun ρ15 l15 r15=>?_
  replace r2:=Bmg l15 r2
  refine Asb rfl rfl fun K16 K17 k16 k17=>Arw (Ay Market.f_sales Bia rfl rfl Qn (by decide) rfl r2) fun v18 r18=>Arw (Ax Qn rfl r18) fun v19 r19=>?_
  have g20:=Bmn r19
  refine l_v (Ci (el:=51) Bif rfl r19) (l_v (Md (p:=1) (q:=m.sales.length) rfl rfl rfl (by omega) (z:=(((1 <<< m.sales.length):Nat):Int)) (Ev (by omega) (by omega))) (Asf (.int .u64 (0)) (l_k k17 (Ao (Cc (fun mm ee dd ρ' σ'=>∃ (x:Nat) (g:Int) (vv21_3:Value),(1 <<< m.sales.length - x) = mm∧[] = dd∧Ro.le ρ15 ρ'∧σ = σ'∧ee 6 = (.pointer (some ⟨k14,0,none⟩))∧ee 23 = (.int .u64 ((((1 <<< m.sales.length):Nat):Int)))∧ee 2 = (iV (g))∧ee 3 = vv21_3∧ee 24 = (.int .u64 ((x:Int)))∧(x ≤ 1 <<< m.sales.length)∧(g = Bq m (Cj m x))∧Val ρ' vv21_3 (Bw (Cj m x):List Int)∧True) (m:=_) ⟨0,0,(nS),rfl,rfl,Bml,rfl,rfl,rfl,rfl,rfl,rfl,(Nat.zero_le _),(by rw [show Cj m 0 = [] from rfl]; exact (Ri ok).symm),(Val.cast (rfl) Gx),trivial⟩ ?_)))))
  rintro m21 e21 _ ρ21 _ ⟨x,g,vv21_3,rfl,rfl,l21,rfl,h21_6,h21_23,h21_2,h21_3,h21_24,p21_0,p21_1,VV21_3,_⟩
  replace r15:=Bmg l21 r15
  have hi1:=Fc (l:=Bv x)
  have hi2:=Fc (l:=Cj m x)
  have hbl:=Ox (m:=m) (x:=x)
  have hsl:=Ui (x:=x)
  refine w_q rfl rfl fun K22 k22=>l_v (Da h21_24 h21_23) (Asa k22 fun K23 k23=>Asg (t:=decide ((x:Int) < (((1 <<< m.sales.length):Nat):Int))) rfl (fun b24=>?_) (fun b24=>?_))
  ·have q24:=of_decide_eq_true b24
   refine Al (k23 _ _ _ _ ?_)
   refine Ai fun K25 k25=>Ao (w_q rfl rfl fun K26 k26=>l_v (Ah (v:=(.int .u64 ((x:Int)))) h21_24) (Lo (.int .u64 ((x:Int))) (Arx rfl rfl k26 fun K27 k27=>Asf (.int .u64 ((x:Int))) (Arv (Cm (vs:=[(.int .u64 ((x:Int)))]) (Acu (x:=x) (by omega)) Tryd.func46 rfl rfl ⟨rfl,trivial⟩ fun v28 ρ28 σ28 hc28=>?_)))))
   obtain ⟨l28,s28,r28⟩:=hc28
   replace s28:=s28.symm; subst s28
   replace r15:=Bmg l28 r15
   replace VV21_3:=Bmo l28 VV21_3
   refine Lo v28 (Arx rfl rfl k27 fun K29 k29=>Arw (Ax Wk h21_6 r15) fun v30 r30=>Asf v28 (Arv (Bm (Acw (l:=Bv x) r30 r28 ok (Ado (by omega) hn8) (by omega)) Bma rfl rfl ⟨rfl,rfl,trivial⟩ ?_)))
   refine Lo (iV (Bq m (Bv x))) (Asa k29 fun K31 k31=>?_)
   have kj31:∀  (ee:Env),(ee 2 = (iV (g)))∧(ee 3 = vv21_3)∧(ee 6 = (.pointer (some ⟨k14,0,none⟩)))∧(ee 8 = v28)∧(ee 9 = (iV (Bq m (Bv x))))∧(ee 23 = (.int .u64 ((((1 <<< m.sales.length):Nat):Int))))∧(ee 24 = (.int .u64 ((x:Int))))∧(ee 10 = (.bool (decide (Cr (Bv x) (Cj m x)))))∧True→K31 ee ([]) ρ28 σ:=by
    rintro e31 ⟨h31_2,h31_3,h31_6,h31_8,h31_9,h31_23,h31_24,h31_10,_⟩
    apply k31
    refine Ai fun K32 k32=>?_
    have kj32:∀  (ee:Env),(ee 2 = (iV (g)))∧(ee 3 = vv21_3)∧(ee 6 = (.pointer (some ⟨k14,0,none⟩)))∧(ee 8 = v28)∧(ee 9 = (iV (Bq m (Bv x))))∧(ee 23 = (.int .u64 ((((1 <<< m.sales.length):Nat):Int))))∧(ee 24 = (.int .u64 ((x:Int))))∧(ee 60 = (.bool (decide (Bu (Bq m) (Bv x) (Cj m x)))))∧True→K32 ee ([]) ρ28 σ:=by
     rintro e32 ⟨h32_2,h32_3,h32_6,h32_8,h32_9,h32_23,h32_24,h32_60,_⟩
     apply k32
     refine Asg (t:=decide (Bu (Bq m) (Bv x) (Cj m x))) h32_60 (fun b33=>?_) (fun b33=>?_)
     ·have q33:=of_decide_eq_true b33
      refine Ag rfl rfl (l_v (Ah (v:=(iV (Bq m (Bv x)))) h32_9) (l_v (Ah (v:=v28) h32_8) (Lo (iV (Bq m (Bv x))) (Lo v28 (l_k k25 (Ag rfl rfl (l_v (Br h32_24 rfl (z:=(((x + 1):Nat):Int)) ((Ev (by omega) (by omega)).trans (by push_cast; rfl))) (Asf (.int .u64 ((((x + 1):Nat):Int))) (Ac ?_)))))))))
      refine ⟨_,?_,((x + 1)),(Bq m (Bv x)),v28,rfl,rfl,(Bmm l21 l28),rfl,h32_6,h32_23,rfl,rfl,rfl,(by omega),(by rw [Dz q33]),(Val.cast (by rw [Dz q33]) r28),trivial⟩
      omega
     have q33:=of_decide_eq_false b33
     refine Al (k25 _ _ _ _ ?_)
     refine Ag rfl rfl (l_v (Br h32_24 rfl (z:=(((x + 1):Nat):Int)) ((Ev (by omega) (by omega)).trans (by push_cast; rfl))) (Asf (.int .u64 ((((x + 1):Nat):Int))) (Ac ?_)))
     refine ⟨_,?_,((x + 1)),(g),vv21_3,rfl,rfl,(Bmm l21 l28),rfl,h32_6,h32_23,h32_2,h32_3,rfl,(by omega),(by rw [Dy q33]; exact p21_1),(Val.cast (by rw [Dy q33]) VV21_3),trivial⟩
     omega
    refine Ag rfl rfl (l_v (Ah (v:=(iV (Bq m (Bv x)))) h31_9) (l_v (Ah (v:=(iV (g))) h31_2) (l_v (Gl rfl rfl) (Asf (.bool (decide (Bq m (Bv x) > g))) (Cn (decide (Bq m (Bv x) > g)) (fun b34=>?_) (fun b34=>?_))))))
    ·have q34:=of_decide_eq_true b34
     refine Ap (gN rfl b34) (Ap (gN rfl b34) (Ap (gN rfl b34) (Ap (gN rfl b34) (Ap (Jf rfl rfl rfl) (Ap (gN rfl b34) (l_v (Bt rfl b34 (v:=(.bool (true))) rfl) (Ac ?_)))))))
     refine kj32 _ (⟨h31_2,h31_3,h31_6,h31_8,h31_9,h31_23,h31_24,(rfl.trans ((congrArg Value.bool (decide_eq_true (by unfold Bu; omega)).symm))),trivial⟩)
    have q34:=of_decide_eq_false b34
    refine Aa (gY rfl b34) (Ah (v:=(iV (Bq m (Bv x)))) h31_9) (Aa (gY rfl b34) (Ah (v:=(iV (g))) h31_2) (Aa (gY rfl b34) (Ek rfl rfl) (l_M (.bool (Bq m (Bv x) == g)) (gY rfl b34) rfl (Cn (Bq m (Bv x) == g) (fun b35=>?_) (fun b35=>?_)))))
    ·have q35:=Jr b35
     refine Aa (gY rfl b35) (Ah (v:=(.bool (decide (Cr (Bv x) (Cj m x))))) h31_10) (Aa (gY rfl b34) (Bt rfl b35 (v:=(.bool (decide (Cr (Bv x) (Cj m x))))) rfl) (l_v (Bn rfl b34 (v:=(.bool (decide (Cr (Bv x) (Cj m x))))) rfl) (Ac ?_)))
     refine kj32 _ (⟨h31_2,h31_3,h31_6,h31_8,h31_9,h31_23,h31_24,(rfl.trans ((congrArg Value.bool (decide_eq_decide.2 ⟨fun h=>Or.inr ⟨by omega,h⟩,fun h=>h.elim (fun h=>absurd h (by omega)) (·.2)⟩)))),trivial⟩)
    have q35:=Jq b35
    refine Ap (gN rfl b35) (Aa (gY rfl b34) (Bn rfl b35 (v:=(.bool (false))) rfl) (l_v (Bn rfl b34 (v:=(.bool (false))) rfl) (Ac ?_)))
    refine kj32 _ (⟨h31_2,h31_3,h31_6,h31_8,h31_9,h31_23,h31_24,(rfl.trans ((congrArg Value.bool (decide_eq_false (by unfold Bu; omega)).symm))),trivial⟩)
   refine Ag rfl rfl (Asf v28 ?_)
   have g36:=Bmn r28
   refine l_v (Ci (el:=3) Bhy rfl r28) (l_v (Ah (v:=vv21_3) h21_3) ?_)
   have g37:=Bmn VV21_3
   refine l_v (Ci (el:=3) Bhy rfl VV21_3) (l_v (Da rfl rfl) (Asf (.bool (decide ((((Bw (Bv x)).length:Nat):Int) < (((Bw (Cj m x)).length:Nat):Int)))) (Cn (decide ((((Bw (Bv x)).length:Nat):Int) < (((Bw (Cj m x)).length:Nat):Int))) (fun b38=>?_) (fun b38=>?_))))
   ·have q38:=of_decide_eq_true b38
    refine Ap (gN rfl b38) (Ap (gN rfl b38) (Ap (gN rfl b38) (Ap (gN rfl b38) (Ap (gN rfl b38) (Ap (gN rfl b38) (Ap (Jf rfl rfl rfl) (Ap (Jf rfl rfl rfl) (Ap (Jf rfl rfl rfl) (Ap (Jf rfl rfl rfl) (Ap (gN rfl b38) (l_v (Bt rfl b38 (v:=(.bool (true))) rfl) (Lo (.bool (true)) (Ac ?_)))))))))))))
    refine kj31 _ (⟨h21_2,h21_3,h21_6,rfl,rfl,h21_23,h21_24,(rfl.trans ((congrArg Value.bool (decide_eq_true (by unfold Cr; rw [← Ce]; omega)).symm))),trivial⟩)
   have q38:=of_decide_eq_false b38
   refine l_M v28 (gY rfl b38) rfl ?_
   have g39:=Bmn r28
   refine Aa (gY rfl b38) (Ci (el:=3) Bhy rfl r28) (Aa (gY rfl b38) (Ah (v:=vv21_3) h21_3) ?_)
   have g40:=Bmn VV21_3
   refine Aa (gY rfl b38) (Ci (el:=3) Bhy rfl VV21_3) (Aa (gY rfl b38) (Ek rfl rfl) (l_M (.bool ((((Bw (Bv x)).length:Nat):Int) == (((Bw (Cj m x)).length:Nat):Int))) (gY rfl b38) rfl (Cn ((((Bw (Bv x)).length:Nat):Int) == (((Bw (Cj m x)).length:Nat):Int)) (fun b41=>?_) (fun b41=>?_))))
   ·have q41:=Jr b41
    refine l_M v28 (gY rfl b41) rfl (Aa (gY rfl b41) (Ah (v:=vv21_3) h21_3) (Ae (gY rfl b41) (Bm (Agy r28 VV21_3) Bmb rfl rfl ⟨rfl,rfl,trivial⟩ ?_)))
    refine Aa (gY rfl b41) (Da rfl rfl) (Aa (gY rfl b38) (Bt rfl b41 (v:=(.bool (decide ((Gz (Bw (Bv x)) (Bw (Cj m x))) < 0)))) rfl) (l_v (Bn rfl b38 (v:=(.bool (decide ((Gz (Bw (Bv x)) (Bw (Cj m x))) < 0)))) rfl) (Lo (.bool (decide ((Gz (Bw (Bv x)) (Bw (Cj m x))) < 0))) (Ac ?_))))
    refine kj31 _ (⟨h21_2,h21_3,h21_6,rfl,rfl,h21_23,h21_24,(rfl.trans ((congrArg Value.bool (decide_eq_decide.2 (by unfold Cr; rw [← Ce]; omega))))),trivial⟩)
   have q41:=Jq b41
   refine Ap (gN rfl b41) (Ap (gN rfl b41) (Ap (gN rfl b41) (Ap (gN rfl b41) (Aa (gY rfl b38) (Bn rfl b41 (v:=(.bool (false))) rfl) (l_v (Bn rfl b38 (v:=(.bool (false))) rfl) (Lo (.bool (false)) (Ac ?_)))))))
   refine kj31 _ (⟨h21_2,h21_3,h21_6,rfl,rfl,h21_23,h21_24,(rfl.trans ((congrArg Value.bool (decide_eq_false (by unfold Cr; rw [← Ce]; omega)).symm))),trivial⟩)
  have q24:=of_decide_eq_false b24
  refine Bx (k16 _ _ _ _ ?_)
  refine w_q rfl rfl fun K42 k42=>l_v (Ah (v:=(iV (g))) h21_2) (l_v (Ah (v:=vv21_3) h21_3) (Lo (iV (g)) (Lo vv21_3 (Lo (iV (0)) (l_k k42 (Aq (hret _ _ _ (⟨(Bmm (Bmm (Bmm l2 l12) l15) l21),rfl,vv21_3,Eq.trans (b:=(.tuple #[(iV (g)),vv21_3,(iV (0))])) (Mp (r:=2) (r':=3) (rs:=[4]) (v:=(iV (g))) (v':=vv21_3) (vs:=[(iV (0))]) ⟨rfl,rfl,rfl,trivial⟩) ?_,Val.cast ?_ VV21_3⟩))))))))
  ·rw [Ahr,if_pos hm0,p21_1,show x = 2 ^ m.sales.length by omega,Me hn8,hm0]
  ·rw [Ahs,if_pos hm0,show x = 2 ^ m.sales.length by omega,Me hn8]
 ·refine Ct Ake fun k43=>⟨Bml,?_⟩
  refine Asm 2 [o1,o1,o1,o0,o1,o0] rfl (Cm (vs:=[v11]) (Td r11 ok) Blm rfl rfl ⟨rfl,trivial⟩ fun v44 ρ44 σ44 hc44=>?_)
  obtain ⟨l44,s44,r44⟩:=hc44
  replace s44:=s44.symm; subst s44
  replace r2:=Bmg l44 r2
  replace r10:=Bmo l44 r10
  refine ⟨l44,?_⟩
  refine Atv 3 Bax rfl l44 rfl (Rt rfl r10 rfl r44) fun v45 r45=>Asv 5 Bay rfl (Dv (v:=v45) (a:=(⟨m,⟨En m⟩⟩:GMarket)) (c:=Akc) Wk rfl rfl r45 rfl ⟨l44,?_⟩)
  refine Ec rfl (k9 _ _ _ _ ?_)
  refine Nt (a:=(⟨m,⟨En m⟩⟩:GMarket)) r45 fun ρ46 l46 r46=>?_
  replace r2:=Bmg l46 r2
  refine Asb rfl rfl fun K47 K48 k47 k48=>Arw (Ay Market.f_sales Bia rfl rfl Qn (by decide) rfl r2) fun v49 r49=>Arw (Ax Qn rfl r49) fun v50 r50=>?_
  have g51:=Bmn r50
  refine l_v (Ci (el:=51) Bif rfl r50) (l_v (Md (p:=1) (q:=m.sales.length) rfl rfl rfl (by omega) (z:=(((1 <<< m.sales.length):Nat):Int)) (Ev (by omega) (by omega))) (Asf (.int .u64 (0)) (l_k k48 (Ao (Cc (fun mm ee dd ρ' σ'=>∃ (x:Nat) (g:Int) (vv52_3:Value),(1 <<< m.sales.length - x) = mm∧[] = dd∧Ro.le ρ46 ρ'∧σ = σ'∧ee 6 = (.pointer (some ⟨k43,0,none⟩))∧ee 23 = (.int .u64 ((((1 <<< m.sales.length):Nat):Int)))∧ee 2 = (iV (g))∧ee 3 = vv52_3∧ee 24 = (.int .u64 ((x:Int)))∧(x ≤ 1 <<< m.sales.length)∧(g = Bq m (Cj m x))∧Val ρ' vv52_3 (Bw (Cj m x):List Int)∧True) (m:=_) ⟨0,0,(nS),rfl,rfl,Bml,rfl,rfl,rfl,rfl,rfl,rfl,(Nat.zero_le _),(by rw [show Cj m 0 = [] from rfl]; exact (Ri ok).symm),(Val.cast (rfl) Gx),trivial⟩ ?_)))))
  rintro m52 e52 _ ρ52 _ ⟨x,g,vv52_3,rfl,rfl,l52,rfl,h52_6,h52_23,h52_2,h52_3,h52_24,p52_0,p52_1,VV52_3,_⟩
  replace r46:=Bmg l52 r46
  have hi1:=Fc (l:=Bv x)
  have hi2:=Fc (l:=Cj m x)
  have hbl:=Ox (m:=m) (x:=x)
  have hsl:=Ui (x:=x)
  refine w_q rfl rfl fun K53 k53=>l_v (Da h52_24 h52_23) (Asa k53 fun K54 k54=>Asg (t:=decide ((x:Int) < (((1 <<< m.sales.length):Nat):Int))) rfl (fun b55=>?_) (fun b55=>?_))
  ·have q55:=of_decide_eq_true b55
   refine Al (k54 _ _ _ _ ?_)
   refine Ai fun K56 k56=>Ao (w_q rfl rfl fun K57 k57=>l_v (Ah (v:=(.int .u64 ((x:Int)))) h52_24) (Lo (.int .u64 ((x:Int))) (Arx rfl rfl k57 fun K58 k58=>Asf (.int .u64 ((x:Int))) (Arv (Cm (vs:=[(.int .u64 ((x:Int)))]) (Acu (x:=x) (by omega)) Tryd.func46 rfl rfl ⟨rfl,trivial⟩ fun v59 ρ59 σ59 hc59=>?_)))))
   obtain ⟨l59,s59,r59⟩:=hc59
   replace s59:=s59.symm; subst s59
   replace r46:=Bmg l59 r46
   replace VV52_3:=Bmo l59 VV52_3
   refine Lo v59 (Arx rfl rfl k58 fun K60 k60=>Arw (Ax Wk h52_6 r46) fun v61 r61=>Asf v59 (Arv (Bm (Acw (l:=Bv x) r61 r59 ok (Ado (by omega) hn8) (by omega)) Bma rfl rfl ⟨rfl,rfl,trivial⟩ ?_)))
   refine Lo (iV (Bq m (Bv x))) (Asa k60 fun K62 k62=>?_)
   have kj62:∀  (ee:Env),(ee 2 = (iV (g)))∧(ee 3 = vv52_3)∧(ee 6 = (.pointer (some ⟨k43,0,none⟩)))∧(ee 8 = v59)∧(ee 9 = (iV (Bq m (Bv x))))∧(ee 23 = (.int .u64 ((((1 <<< m.sales.length):Nat):Int))))∧(ee 24 = (.int .u64 ((x:Int))))∧(ee 10 = (.bool (decide (Cr (Bv x) (Cj m x)))))∧True→K62 ee ([]) ρ59 σ:=by
    rintro e62 ⟨h62_2,h62_3,h62_6,h62_8,h62_9,h62_23,h62_24,h62_10,_⟩
    apply k62
    refine Ai fun K63 k63=>?_
    have kj63:∀  (ee:Env),(ee 2 = (iV (g)))∧(ee 3 = vv52_3)∧(ee 6 = (.pointer (some ⟨k43,0,none⟩)))∧(ee 8 = v59)∧(ee 9 = (iV (Bq m (Bv x))))∧(ee 23 = (.int .u64 ((((1 <<< m.sales.length):Nat):Int))))∧(ee 24 = (.int .u64 ((x:Int))))∧(ee 60 = (.bool (decide (Bu (Bq m) (Bv x) (Cj m x)))))∧True→K63 ee ([]) ρ59 σ:=by
     rintro e63 ⟨h63_2,h63_3,h63_6,h63_8,h63_9,h63_23,h63_24,h63_60,_⟩
     apply k63
     refine Asg (t:=decide (Bu (Bq m) (Bv x) (Cj m x))) h63_60 (fun b64=>?_) (fun b64=>?_)
     ·have q64:=of_decide_eq_true b64
      refine Ag rfl rfl (l_v (Ah (v:=(iV (Bq m (Bv x)))) h63_9) (l_v (Ah (v:=v59) h63_8) (Lo (iV (Bq m (Bv x))) (Lo v59 (l_k k56 (Ag rfl rfl (l_v (Br h63_24 rfl (z:=(((x + 1):Nat):Int)) ((Ev (by omega) (by omega)).trans (by push_cast; rfl))) (Asf (.int .u64 ((((x + 1):Nat):Int))) (Ac ?_)))))))))
      refine ⟨_,?_,((x + 1)),(Bq m (Bv x)),v59,rfl,rfl,(Bmm l52 l59),rfl,h63_6,h63_23,rfl,rfl,rfl,(by omega),(by rw [Dz q64]),(Val.cast (by rw [Dz q64]) r59),trivial⟩
      omega
     have q64:=of_decide_eq_false b64
     refine Al (k56 _ _ _ _ ?_)
     refine Ag rfl rfl (l_v (Br h63_24 rfl (z:=(((x + 1):Nat):Int)) ((Ev (by omega) (by omega)).trans (by push_cast; rfl))) (Asf (.int .u64 ((((x + 1):Nat):Int))) (Ac ?_)))
     refine ⟨_,?_,((x + 1)),(g),vv52_3,rfl,rfl,(Bmm l52 l59),rfl,h63_6,h63_23,h63_2,h63_3,rfl,(by omega),(by rw [Dy q64]; exact p52_1),(Val.cast (by rw [Dy q64]) VV52_3),trivial⟩
     omega
    refine Ag rfl rfl (l_v (Ah (v:=(iV (Bq m (Bv x)))) h62_9) (l_v (Ah (v:=(iV (g))) h62_2) (l_v (Gl rfl rfl) (Asf (.bool (decide (Bq m (Bv x) > g))) (Cn (decide (Bq m (Bv x) > g)) (fun b65=>?_) (fun b65=>?_))))))
    ·have q65:=of_decide_eq_true b65
     refine Ap (gN rfl b65) (Ap (gN rfl b65) (Ap (gN rfl b65) (Ap (gN rfl b65) (Ap (Jf rfl rfl rfl) (Ap (gN rfl b65) (l_v (Bt rfl b65 (v:=(.bool (true))) rfl) (Ac ?_)))))))
     refine kj63 _ (⟨h62_2,h62_3,h62_6,h62_8,h62_9,h62_23,h62_24,(rfl.trans ((congrArg Value.bool (decide_eq_true (by unfold Bu; omega)).symm))),trivial⟩)
    have q65:=of_decide_eq_false b65
    refine Aa (gY rfl b65) (Ah (v:=(iV (Bq m (Bv x)))) h62_9) (Aa (gY rfl b65) (Ah (v:=(iV (g))) h62_2) (Aa (gY rfl b65) (Ek rfl rfl) (l_M (.bool (Bq m (Bv x) == g)) (gY rfl b65) rfl (Cn (Bq m (Bv x) == g) (fun b66=>?_) (fun b66=>?_)))))
    ·have q66:=Jr b66
     refine Aa (gY rfl b66) (Ah (v:=(.bool (decide (Cr (Bv x) (Cj m x))))) h62_10) (Aa (gY rfl b65) (Bt rfl b66 (v:=(.bool (decide (Cr (Bv x) (Cj m x))))) rfl) (l_v (Bn rfl b65 (v:=(.bool (decide (Cr (Bv x) (Cj m x))))) rfl) (Ac ?_)))
     refine kj63 _ (⟨h62_2,h62_3,h62_6,h62_8,h62_9,h62_23,h62_24,(rfl.trans ((congrArg Value.bool (decide_eq_decide.2 ⟨fun h=>Or.inr ⟨by omega,h⟩,fun h=>h.elim (fun h=>absurd h (by omega)) (·.2)⟩)))),trivial⟩)
    have q66:=Jq b66
    refine Ap (gN rfl b66) (Aa (gY rfl b65) (Bn rfl b66 (v:=(.bool (false))) rfl) (l_v (Bn rfl b65 (v:=(.bool (false))) rfl) (Ac ?_)))
    refine kj63 _ (⟨h62_2,h62_3,h62_6,h62_8,h62_9,h62_23,h62_24,(rfl.trans ((congrArg Value.bool (decide_eq_false (by unfold Bu; omega)).symm))),trivial⟩)
   refine Ag rfl rfl (Asf v59 ?_)
   have g67:=Bmn r59
   refine l_v (Ci (el:=3) Bhy rfl r59) (l_v (Ah (v:=vv52_3) h52_3) ?_)
   have g68:=Bmn VV52_3
   refine l_v (Ci (el:=3) Bhy rfl VV52_3) (l_v (Da rfl rfl) (Asf (.bool (decide ((((Bw (Bv x)).length:Nat):Int) < (((Bw (Cj m x)).length:Nat):Int)))) (Cn (decide ((((Bw (Bv x)).length:Nat):Int) < (((Bw (Cj m x)).length:Nat):Int))) (fun b69=>?_) (fun b69=>?_))))
   ·have q69:=of_decide_eq_true b69
    refine Ap (gN rfl b69) (Ap (gN rfl b69) (Ap (gN rfl b69) (Ap (gN rfl b69) (Ap (gN rfl b69) (Ap (gN rfl b69) (Ap (Jf rfl rfl rfl) (Ap (Jf rfl rfl rfl) (Ap (Jf rfl rfl rfl) (Ap (Jf rfl rfl rfl) (Ap (gN rfl b69) (l_v (Bt rfl b69 (v:=(.bool (true))) rfl) (Lo (.bool (true)) (Ac ?_)))))))))))))
    refine kj62 _ (⟨h52_2,h52_3,h52_6,rfl,rfl,h52_23,h52_24,(rfl.trans ((congrArg Value.bool (decide_eq_true (by unfold Cr; rw [← Ce]; omega)).symm))),trivial⟩)
   have q69:=of_decide_eq_false b69
   refine l_M v59 (gY rfl b69) rfl ?_
   have g70:=Bmn r59
   refine Aa (gY rfl b69) (Ci (el:=3) Bhy rfl r59) (Aa (gY rfl b69) (Ah (v:=vv52_3) h52_3) ?_)
   have g71:=Bmn VV52_3
   refine Aa (gY rfl b69) (Ci (el:=3) Bhy rfl VV52_3) (Aa (gY rfl b69) (Ek rfl rfl) (l_M (.bool ((((Bw (Bv x)).length:Nat):Int) == (((Bw (Cj m x)).length:Nat):Int))) (gY rfl b69) rfl (Cn ((((Bw (Bv x)).length:Nat):Int) == (((Bw (Cj m x)).length:Nat):Int)) (fun b72=>?_) (fun b72=>?_))))
   ·have q72:=Jr b72
    refine l_M v59 (gY rfl b72) rfl (Aa (gY rfl b72) (Ah (v:=vv52_3) h52_3) (Ae (gY rfl b72) (Bm (Agy r59 VV52_3) Bmb rfl rfl ⟨rfl,rfl,trivial⟩ ?_)))
    refine Aa (gY rfl b72) (Da rfl rfl) (Aa (gY rfl b69) (Bt rfl b72 (v:=(.bool (decide ((Gz (Bw (Bv x)) (Bw (Cj m x))) < 0)))) rfl) (l_v (Bn rfl b69 (v:=(.bool (decide ((Gz (Bw (Bv x)) (Bw (Cj m x))) < 0)))) rfl) (Lo (.bool (decide ((Gz (Bw (Bv x)) (Bw (Cj m x))) < 0))) (Ac ?_))))
    refine kj62 _ (⟨h52_2,h52_3,h52_6,rfl,rfl,h52_23,h52_24,(rfl.trans ((congrArg Value.bool (decide_eq_decide.2 (by unfold Cr; rw [← Ce]; omega))))),trivial⟩)
   have q72:=Jq b72
   refine Ap (gN rfl b72) (Ap (gN rfl b72) (Ap (gN rfl b72) (Ap (gN rfl b72) (Aa (gY rfl b69) (Bn rfl b72 (v:=(.bool (false))) rfl) (l_v (Bn rfl b69 (v:=(.bool (false))) rfl) (Lo (.bool (false)) (Ac ?_)))))))
   refine kj62 _ (⟨h52_2,h52_3,h52_6,rfl,rfl,h52_23,h52_24,(rfl.trans ((congrArg Value.bool (decide_eq_false (by unfold Cr; rw [← Ce]; omega)).symm))),trivial⟩)
  have q55:=of_decide_eq_false b55
  refine Bx (k47 _ _ _ _ ?_)
  refine w_q rfl rfl fun K73 k73=>l_v (Ah (v:=(iV (g))) h52_2) (l_v (Ah (v:=vv52_3) h52_3) (Lo (iV (g)) (Lo vv52_3 (Lo (iV (0)) (l_k k73 (Aq (hret _ _ _ (⟨(Bmm (Bmm (Bmm l2 l44) l46) l52),rfl,vv52_3,Eq.trans (b:=(.tuple #[(iV (g)),vv52_3,(iV (0))])) (Mp (r:=2) (r':=3) (rs:=[4]) (v:=(iV (g))) (v':=vv52_3) (vs:=[(iV (0))]) ⟨rfl,rfl,rfl,trivial⟩) ?_,Val.cast ?_ VV52_3⟩))))))))
  ·rw [Ahr,if_pos hm0,p52_1,show x = 2 ^ m.sales.length by omega,Me hn8,hm0]
  ·rw [Ahs,if_pos hm0,show x = 2 ^ m.sales.length by omega,Me hn8]
end
section
set_option maxHeartbeats 1000000
open Go
theorem Abk {a x:Span} {p q:Int}:Tz a a x p = Tz a a x q:=by
 unfold Tz
 have h:∀ (r y:Int),r * y + (100 - r) * y = 100 * y:=fun r y=>by rw [← Int.add_mul]; congr 1; omega
 rw [h,h,h,h]
theorem Abl {f:FField} {marks:List Span} {p q:Int}:Gm f f marks p = Gm f f marks q:=by
 unfold Gm
 have e:Ho f f marks p = Ho f f marks q:=by
  funext k; unfold Ho; split
  ·rename_i a b x h1 h2 h3
   rw [h1] at h2; cases h2
   exact Abk
  ·rfl
 rw [e]
def Qc (m:Market) (marks:List Span):List Nat:=(List.range m.fields.length).filter (Iv m marks)
theorem Rw {m:Market} {marks:List Span} {i:Nat} {x:FField} (hx:m.fields[i]? = some x):Iv m marks i = Gm x x marks 100:=by
 unfold Iv; rw [hx]; exact Abl
theorem Yk {p:Nat→Bool} {i:Nat}:(List.range (i + 1)).filter p = (List.range i).filter p ++ (if p i then [i] else []):=by
 rw [List.range_succ,List.filter_append]; congr 1; cases h:p i <;> simp [h]
theorem Aes {p:Nat→Bool} {n i:Nat} (hi:i < n) (h:p i = true):(List.range n).filter p = (List.range i).filter p ++ i :: ((List.range' (i + 1) (n - 1 - i)).filter p):=by
 have e1:List.range n = List.range i ++ i :: List.range' (i + 1) (n - 1 - i):=by
  obtain ⟨d,rfl⟩:∃ d,n = i + (1 + d):=⟨n - 1 - i,by omega⟩
  rw [show i + (1 + d) - 1 - i = d by omega,List.range_eq_range',List.range_eq_range',← List.range'_append_1,← List.range'_append_1]
  simp
 rw [e1,List.filter_append,List.filter_cons,h,if_pos rfl]
theorem Alf {m:Market} {marks:List Span} {ρ₀:Ro} {vm vk:Value} (hm:At ρ₀ vm m) (hk:At ρ₀ vk marks) (ok:AskOk m marks) (okm:MarketOk m):IterF (.func (.func 80) #[] #[vm,vk]) ρ₀ ((Qc m marks).map (fun x:Nat=>Value.int .i64 (x:Int))):=by
 refine ⟨80,_,[vm,vk],rfl,Tryd.func80,rfl,rfl,?_⟩
 intro mn X l I ρ σ hle hmono hI hy
 replace hm:=hm.mono hle
 replace hk:=hk.mono hle
 have hn6:=okm.nfields
 refine Bh (n:=25) (args:=[(.func (.yield l) #[] #[]),vm,vk]) [] Tryd.func80 rfl rfl rfl rfl fun Q hret hnor=>w_q rfl rfl fun K1 k1=>Arw (Ay Market.f_fields Bia rfl rfl Se (by decide) rfl hm) fun v2 r2=>Arw (Ax Se rfl r2) fun v3 r3=>?_
 have g4:=Bmn r3
 refine l_v (Ci (el:=43) Big rfl r3) (Asf (iV (0)) (l_k k1 (Ao (Cc (fun mm ee dd ρ' σ'=>∃ (i:Nat) (σb5:Own),(m.fields.length - i) = mm∧[] = dd∧Ro.le ρ ρ'∧σb5 = σ'∧ee 0 = (.func (.yield l) #[] #[])∧ee 2 = vk∧ee 7 = v3∧ee 8 = (iV (((m.fields.length:Nat):Int)))∧ee 9 = (iV ((i:Int)))∧(i ≤ m.fields.length)∧I (((List.range i).filter (Iv m marks)).map (fun x:Nat=>Value.int .i64 (x:Int))) ρ' σb5∧True) (m:=_) ⟨0,σ,rfl,rfl,Bml,rfl,rfl,rfl,rfl,rfl,rfl,(Nat.zero_le _),hI,trivial⟩ ?_))))
 rintro m5 e5 _ ρ5 _ ⟨i,σb5,rfl,rfl,l5,rfl,h5_0,h5_2,h5_7,h5_8,h5_9,p5_0,IB5,_⟩
 replace hk:=Bmg l5 hk
 replace r3:=Bmo l5 r3
 refine w_q rfl rfl fun K6 k6=>l_v (Da h5_9 h5_8) (Asa k6 fun K7 k7=>Asg (t:=decide ((i:Int) < ((m.fields.length:Nat):Int))) rfl (fun b8=>?_) (fun b8=>?_))
 ·have q8:=of_decide_eq_true b8
  refine Al (k7 _ _ _ _ ?_)
  refine Ai fun K9 k9=>Ao (w_q rfl rfl fun K10 k10=>l_v (Ah (v:=(iV ((i:Int)))) h5_9) ?_)
  obtain ⟨a12,ha12⟩:=Ed (xs:=m.fields) (i:=i) (by omega)
  refine Arw (Ch i Big ty67 h5_7 r3 (q:=(i:Int)) h5_9 rfl ha12) fun v11 r11=>Arw (Ax ty67 rfl r11) fun v13 r13=>Arv (Ct Xu fun k14=>?_)
  refine Lo (iV ((i:Int))) (Cx rfl (Dv (v:=v13) (a:=a12) (c:=Aah) ty67 rfl rfl r13 rfl ?_))
  refine Bb (a:=a12) r13 fun ρ15 l15 r15=>?_
  replace hk:=Bmg l15 hk
  replace IB5:=hmono _ _ _ _ l15 IB5
  refine Arx rfl rfl k10 fun K16 k16=>Arw (Ax Uo h5_2 hk) fun v17 r17=>Arw (Ax ty67 rfl r15) fun v18 r18=>Arw (Ax ty67 rfl r15) fun v19 r19=>Arv (Bm (Acv r17 r18 r19 (ok.fields _ _ ha12) (ok.fields _ _ ha12) ok.marks (by omega)) Tryd.func57 rfl rfl ⟨rfl,rfl,rfl,rfl,trivial⟩ ?_)
  refine Asf (.bool (Gm a12 a12 marks 100)) (Cn (Gm a12 a12 marks 100) (fun b20=>?_) (fun b20=>?_))
  ·refine Aa (gY rfl b20) (Ah (v:=(.func (.yield l) #[] #[])) h5_0) (l_M (iV ((i:Int))) (gY rfl b20) rfl ?_)
   have hor:=(Rw (marks:=marks) ha12).trans b20
   refine Ae (gY rfl b20) (Xr (v:=(iV ((i:Int)))) rfl rfl (hy (((List.range i).filter (Iv m marks)).map (fun x:Nat=>Value.int .i64 (x:Int))) (iV ((i:Int))) (((List.range' (i + 1) (m.fields.length - 1 - i)).filter (Iv m marks)).map (fun x:Nat=>Value.int .i64 (x:Int))) _ _ (by unfold Qc; rw [Aes (by omega) hor,List.map_append,List.map_cons]) (Bmm l5 l15) IB5) fun w21 ρ21 σ21 hc21=>?_)
   obtain ⟨hw21,l21,I21⟩:=hc21
   subst hw21
   refine Aa (gY rfl b20) (Iy rfl) (l_v (Bt rfl b20 (v:=(.bool (!(true)))) rfl) (l_k k16 (Cg rfl (not_t rfl) (Al (k9 _ _ _ _ ?_)))))
   refine Ag rfl rfl (l_v (Br h5_9 rfl (z:=(((i + 1):Nat):Int)) wrE) (Asf (iV ((((i + 1):Nat):Int))) (Ac ?_)))
   refine ⟨_,?_,((i + 1)),σ21,rfl,rfl,(Bmm (Bmm l5 l15) l21),rfl,h5_0,h5_2,h5_7,h5_8,rfl,(by omega),(Yp (by rw [Yk,hor,if_pos rfl,List.map_append]; rfl) I21),trivial⟩
   omega
  refine Ap (gN rfl b20) (Ap (gN rfl b20) (Ap (gN rfl b20) (Ap (gN rfl b20) (l_v (Bn rfl b20 (v:=(.bool (false))) rfl) (l_k k16 (Cg rfl rfl (Al (k9 _ _ _ _ ?_))))))))
  refine Ag rfl rfl (l_v (Br h5_9 rfl (z:=(((i + 1):Nat):Int)) wrE) (Asf (iV ((((i + 1):Nat):Int))) (Ac ?_)))
  refine ⟨_,?_,((i + 1)),σb5,rfl,rfl,(Bmm l5 l15),rfl,h5_0,h5_2,h5_7,h5_8,rfl,(by omega),(Yp (by rw [Yk,Rw ha12,b20,if_neg (by simp),List.append_nil]) IB5),trivial⟩
  omega
 have q8:=of_decide_eq_false b8
 refine Bx (hnor _ _ _ (⟨l5,?_⟩))
 rw [Qc,show m.fields.length = i by omega]; exact IB5
variable {mn:Bool} {X:Frame→List Frame→Ro→Own→Cy→Prop} {ρ:Ro} {σ:Own}
theorem Aem {m:Market} {marks:List Span} {vm vk:Value} (rm:Val ρ vm m) (rk:Val ρ vk marks) (ok:AskOk m marks) (okm:MarketOk m):CallsH (CX mn X) 56 #[vm,vk] ρ σ (fun w ρ' σ'=>Ro.le ρ ρ'∧σ' = σ∧IterF w ρ' ((Qc m marks).map (fun x:Nat=>Value.int .i64 (x:Int)))):=by
 refine Bh (n:=6) (args:=[vm,vk]) [4] Tryd.func56 rfl rfl rfl rfl fun Q hret hnor=>w_q rfl rfl fun K1 k1=>Arv (Eb (v:=vm) rfl fun k2=>?_)
 refine Bb (a:=m) rm fun ρ2 l2 r2=>?_
 replace rk:=Bmo l2 rk
 refine Arv (Eb (v:=vk) rfl fun k3=>?_)
 refine Bb (a:=marks) rk fun ρ3 l3 r3=>?_
 replace r2:=Bmg l3 r2
 refine Lo .nilFunc (Arx rfl rfl k1 fun K4 k4=>l_v (Il (fn:=.func 80) (caps:=[.tmp 2,.tmp 3]) (vs:=[(.pointer (some ⟨k2,0,none⟩)),(.pointer (some ⟨k3,0,none⟩))]) ⟨rfl,rfl,trivial⟩) (Lo (.func (.func 80) #[] #[(.pointer (some ⟨k2,0,none⟩)),(.pointer (some ⟨k3,0,none⟩))]) (l_k k4 (Aq (hret _ _ _ (⟨(Bmm l2 l3),rfl,?_⟩))))))
 exact Alf r2 r3 ok okm
theorem Xz {xs:List Nat} {vf:Value} (hf:IterF vf ρ (xs.map (fun x:Nat=>Value.int .i64 (x:Int)))) (hn:xs.length ≤ 100) (hx:∀ a ∈ xs,a < 1000):CallsH (CX mn X) 79 #[(nS),vf] ρ σ (fun w ρ' σ'=>Ro.le ρ ρ'∧σ' = σ∧Val ρ' w (Bw xs:List Int)):=by
 refine Nz (n:=13) (args:=[(nS),vf]) [4] Tryd.func79 rfl rfl rfl rfl fun Q hret hnor=>w_q rfl rfl fun K1 k1=>Arv (Eb (v:=(nS)) rfl fun k2=>?_)
 refine Lo (nS) (Ary rfl rfl k1 fun K3 K4 k3 k4=>Asf vf (l_k k4 (Ao (Hs (ys:=(xs).map (fun x:Nat=>Value.int .i64 (x:Int))) (fun pre ρ' τ=>∃ (l1:List Nat) (ov5_2c0:Value) (og5_2c0:Own),pre = l1.map (fun x:Nat=>Value.int .i64 (x:Int))∧(og5_2c0 ++ ((k2,oC #[ov5_2c0] 49) :: σ)) = τ∧Grow ρ' 3 ov5_2c0 (Bw l1) og5_2c0∧True) rfl rfl (Nat.le_of_ble_eq_true rfl) rfl hf ?_ ?_ ?_ ?_))))
 ·rintro pre ρa ρb σa hle ⟨l1,ov5_2c0,og5_2c0,h1,h2,OG5_2c0,_⟩; exact ⟨l1,ov5_2c0,og5_2c0,h1,h2,OG5_2c0.mono hle,trivial⟩
 ·exact ⟨[],(nS),[],rfl,rfl,Hm,trivial⟩
 ·rintro l5_ _ x5 post5 ρ5 _ hys5 l5 ⟨l1,ov5_2c0,og5_2c0,rfl,rfl,OG5_2c0,_⟩ pfx5
  obtain ⟨a5,l2_5,hl5,rfl⟩:=Ly Yi hys5
  refine Aj (σ':=(og5_2c0 ++ ((k2,Res.obj (Obj.cells #[ov5_2c0] 49 (0,0))) :: (pfx5 ++ σ)))) (Bmj (by simpa only [List.append_assoc,List.cons_append,List.nil_append,List.set_cons_zero] using Fe pfx5 ((og5_2c0 ++ [(k2,Res.obj (Obj.cells #[ov5_2c0] 49 (0,0)))])) σ)) ?_
  have hlx:=congrArg List.length hl5
  have hil:=Fc (l:=l1)
  have hax:=hx a5 (by rw [hl5]; simp)
  simp only [List.length_append,List.length_cons] at hlx
  refine Ag rfl rfl (Lo (iV ((a5:Int))) (Bj (σ':=pfx5 ++ (og5_2c0 ++ ((k2,Res.obj (Obj.cells #[ov5_2c0] 49 (0,0))) :: σ))) (Bmj (by simpa only [List.append_assoc,List.cons_append,List.nil_append,List.set_cons_zero] using Fe ((og5_2c0 ++ [(k2,Res.obj (Obj.cells #[ov5_2c0] 49 (0,0)))])) pfx5 σ)) (Ac ?_)))
  refine ⟨rfl,rfl,Bml,_,rfl,?_⟩
  intro pfy5
  refine Aj (σ':=(og5_2c0 ++ ((k2,Res.obj (Obj.cells #[ov5_2c0] 49 (0,0))) :: (pfy5 ++ σ)))) (Bmj (by simpa only [List.append_assoc,List.cons_append,List.nil_append,List.set_cons_zero] using Fe pfy5 ((og5_2c0 ++ [(k2,Res.obj (Obj.cells #[ov5_2c0] 49 (0,0)))])) σ)) (Ao (Ag rfl rfl (Arv (Gu (v:=ov5_2c0) ⟨_,Bhy,rfl⟩ rfl (List.mem_append_right _ (List.mem_cons_self ..)) rfl ?_))))
  refine Asf (iV ((a5:Int))) (Arv (Bi (α:=Int) (xs:=[(a5:Int)]) (vs:=[(iV ((a5:Int)))]) Bhy ty3 zr3 rfl (by decide) (Dk (os:=[.tmp 9]) ⟨rfl,trivial⟩) ⟨(Cv.2 ⟨rfl,by constructor <;> omega⟩),trivial⟩ rfl (by decide) fun k6 cs6 R6=>?_))
  have G6:Grow ρ5 3 (.slice (some ⟨k6,0,none⟩) 1 1) ([(a5:Int)]:List Int) [(k6,.obj (.cells cs6.toArray 3 (0,0)))]:=Bs R6 rfl (by decide)
  refine Ca G6 fun ρ8 l8 r8=>?_
  replace OG5_2c0:=Bmk l8 OG5_2c0
  refine Arv (Gc (σ:=((k2,oC #[ov5_2c0] 49) :: (pfy5 ++ σ))) (gr:=og5_2c0) (xs:=Bw l1) (ys:=([(a5:Int)]:List Int)) Bhy Bhy (Ab Bhx) rfl (Nat.le_of_ble_eq_true rfl) rfl rfl rfl rfl OG5_2c0 r8 (by simp only [List.length_append,List.length_cons,List.length_nil]; omega) fun v7 gr7 G7=>?_)
  refine Bj (Bmj Asd) (Cx rfl (Cz (j:=0) (v:=v7) ⟨_,Ab Bjo,rfl⟩ rfl rfl (Grow.single G7) rfl (Nat.le_of_ble_eq_true rfl) ?_))
  refine Bj (Bmj Asc) (Bj (σ':=pfy5 ++ (gr7 ++ ((k2,Res.obj (Obj.cells #[v7] 49 (0,0))) :: σ))) (Bmj (by simpa only [List.append_assoc,List.cons_append,List.nil_append,List.set_cons_zero] using Fe ((gr7 ++ [(k2,Res.obj (Obj.cells #[v7] 49 (0,0)))])) pfy5 σ)) (Ac ?_))
  refine ⟨rfl,l8,_,rfl,l1 ++ [a5],v7,gr7,(by simp),rfl,(Fy (by simp [Bw]) G7),trivial⟩
 ·rintro k9 ρ9 _ l9 ⟨l1,ov5_2c0,og5_2c0,hpre9,rfl,OG5_2c0,_⟩
  obtain rfl:=Nf Yi hpre9
  apply k3
  refine w_q rfl rfl fun K10 k10=>Arv (Gu (v:=ov5_2c0) ⟨_,Bhy,rfl⟩ rfl (List.mem_cons_of_mem _ (List.mem_append_right _ (List.mem_cons_self ..))) rfl ?_)
  refine Lo ov5_2c0 (l_k k10 (Aj (Bmj Asc) (Hc OG5_2c0 fun ρ11 l11 r11=>Aj (Bmj Arz) (Aj Bmh (Aq (hret _ _ _ _ (⟨(Bmm l9 l11),rfl,Abz (v:=ov5_2c0) rfl (Val.cast ?_ r11)⟩)))))))
  ·rfl
theorem Aeg {xs:List Nat} {vf:Value} (hf:IterF vf ρ (xs.map (fun x:Nat=>Value.int .i64 (x:Int)))) (hn:xs.length ≤ 100) (hx:∀ a ∈ xs,a < 1000):CallsH (CX mn X) 55 #[vf] ρ σ (fun w ρ' σ'=>Ro.le ρ ρ'∧σ' = σ∧Val ρ' w (Bw xs:List Int)):=by
 refine Bh (n:=5) (args:=[vf]) [2] Tryd.func55 rfl rfl rfl rfl fun Q hret hnor=>w_q rfl rfl fun K1 k1=>Lo (nS) (Arx rfl rfl k1 fun K2 k2=>Asf vf (Arv (Cm (vs:=[(nS),vf]) (Xz hf hn hx) Tryd.func79 rfl rfl ⟨rfl,rfl,trivial⟩ fun v3 ρ3 σ3 hc3=>?_)))
 obtain ⟨l3,s3,r3⟩:=hc3
 replace s3:=s3.symm; subst s3
 refine Lo v3 (l_k k2 (Aq (hret _ _ _ (⟨l3,rfl,Abz (v:=v3) rfl (Val.cast ?_ r3)⟩))))
 ·rfl
theorem Agu {m:Market} {vm:Value} {marks:List Span} {vk:Value} (rm:Val ρ vm m) (rk:Val ρ vk marks):CallsH (CX mn X) 20 #[vm,vk] ρ σ (fun w ρ' σ'=>Ro.le ρ ρ'∧σ' = σ∧∃ v0,w = (.tuple #[v0,(iV (Sm m marks))])∧Val ρ' v0 (Sn m marks:List Int)):=by
 refine Bh (n:=17) (args:=[vm,vk]) [4,5] Tryd.func20 rfl rfl rfl rfl fun Q hret hnor=>w_q rfl rfl fun K1 k1=>Arv (Eb (v:=vm) rfl fun k2=>?_)
 refine Bb (a:=m) rm fun ρ2 l2 r2=>?_
 replace rk:=Bmo l2 rk
 refine Lo (nS) (Lo (iV (0)) (Ary rfl rfl k1 fun K3 K4 k3 k4=>Arw (Ax Ln rfl r2) fun v5 r5=>Asf vk (Arv (Bm (Amo r5 rk) Tryd.func54 rfl rfl ⟨rfl,rfl,trivial⟩ ?_))))
 refine Lo (iV (Ee m marks)) (Arx rfl rfl k4 fun K6 k6=>Asf (iV (Ee m marks)) (l_v (Dg rfl rfl) (l_k k6 (Asg (t:=Ee m marks != 0) rfl (fun b7=>?_) (fun b7=>?_)))))
 ·have q7:=Ls b7
  refine w_q rfl rfl fun K8 k8=>Asf (iV (Ee m marks)) (Lo (nS) (Lo (iV (Ee m marks)) (l_k k8 (Aq (hret _ _ _ (⟨l2,rfl,(nS),Eq.trans (b:=(.tuple #[(nS),(iV (Ee m marks))])) (Mp (r:=4) (r':=5) (rs:=[]) (v:=(nS)) (v':=(iV (Ee m marks))) (vs:=[]) ⟨rfl,rfl,trivial⟩) ?_,Val.cast ?_ Gx⟩))))))
  ·rw [Sm,Ry q7]
  ·rw [Sn,if_neg q7]
 have ha0:=Jh b7
 obtain ⟨ok,okm⟩:=Xw ha0
 have hn6:=okm.nfields
 have q7:=Jh b7
 refine Al (k3 _ _ _ _ ?_)
 refine w_q rfl rfl fun K9 k9=>Arw (Ax Ln rfl r2) fun v10 r10=>Asf vk (Arv (Cm (vs:=[v10,vk]) (Aem r10 rk ok okm) Tryd.func56 rfl rfl ⟨rfl,rfl,trivial⟩ fun v11 ρ11 σ11 hc11=>?_))
 obtain ⟨l11,s11,r11⟩:=hc11
 replace s11:=s11.symm; subst s11
 refine Arv (Cm (vs:=[v11]) (Aeg r11 (by have:=List.length_filter_le (Iv m marks) (List.range m.fields.length); rw [List.length_range] at this; unfold Qc; omega) (fun a ha=>by have:=(List.mem_filter.1 ha).1; rw [List.mem_range] at this; omega)) Tryd.func55 rfl rfl ⟨rfl,trivial⟩ fun v12 ρ12 σ12 hc12=>?_)
 obtain ⟨l12,s12,r12⟩:=hc12
 replace s12:=s12.symm; subst s12
 refine Lo v12 (Lo (iV (0)) (l_k k9 (Aq (hret _ _ _ (⟨(Bmm (Bmm l2 l11) l12),rfl,v12,Eq.trans (b:=(.tuple #[v12,(iV (0))])) (Mp (r:=4) (r':=5) (rs:=[]) (v:=v12) (v':=(iV (0))) (vs:=[]) ⟨rfl,rfl,trivial⟩) ?_,Val.cast ?_ r12⟩)))))
 ·rw [Sm,Gr q7]
 ·rw [Sn,if_pos q7]; rfl
end
section
set_option maxHeartbeats 1000000
open Go
def Tv:Lab:=⟨[(ByteArray.mk #[100,121,101]),(ByteArray.mk #[104,111,110,101,121]),(ByteArray.mk #[111,108,100])],2,[⟨(ByteArray.mk #[119,97,116,101,114]),[1,0,2],false⟩,⟨(ByteArray.mk #[115,109,101,108,108]),[2,2,1],false⟩,⟨(ByteArray.mk #[119,101,105,103,104,116]),[2,1,2],false⟩]⟩
def Fd:Market:=⟨[(ByteArray.mk #[97,110,97]),(ByteArray.mk #[114,117,105]),(ByteArray.mk #[115,111,108])],[(ByteArray.mk #[105,114,111,110]),(ByteArray.mk #[115,97,108,116])],[⟨(ByteArray.mk #[104,105,108,108]),0,⟨90,100⟩,[⟨10,20⟩,⟨5,9⟩]⟩,⟨(ByteArray.mk #[108,111,119]),1,⟨40,50⟩,[⟨30,40⟩,⟨5,6⟩]⟩,⟨(ByteArray.mk #[101,97,115,116]),2,⟨60,70⟩,[⟨10,15⟩,⟨20,30⟩]⟩],[⟨120,[0,1]⟩,⟨60,[1]⟩,⟨50,[2]⟩]⟩
variable {mn:Bool} {X:Frame→List Frame→Ro→Own→Cy→Prop} {ρ:Ro} {σ:Own}
theorem Hy {a b:Int} (ha:I64 a) (hb:I64 b):CallsH (CX mn X) 8 #[(iV (a)),(iV (b))] ρ σ (fun w ρ' σ'=>Ro.le ρ ρ'∧σ' = σ∧Val ρ' w ((⟨a,b⟩:Span):Span)):=by
 obtain ⟨ha1,ha2⟩:=ha
 obtain ⟨hb1,hb2⟩:=hb
 refine Lt (n:=8) (args:=[(iV (a)),(iV (b))]) [.cell 4 27] Bjr rfl rfl rfl rfl fun Q hret hnor=>w_q rfl rfl fun K1 k1=>Arv (Ct Aak fun k2=>?_)
 refine Arx rfl rfl k1 fun K3 k3=>Asf (iV (a)) (Asf (iV (b)) ?_)
 have r4:Val ρ (.agg #[(iV (a)),(iV (b))]) (⟨a,b⟩:Span):=Span.shut (x:=(⟨a,b⟩:Span)) (show I64 (a) from by constructor <;> omega) (show I64 (b) from by constructor <;> omega)
 refine l_v (Dn (ns:=[1,1]) (vs:=[(0,(iV (a))),(1,(iV (b)))]) (zc:=Arm) (cs:=[(iV (a)),(iV (b))]) Bie Aak rfl ⟨⟨_,Ab Bhx,rfl⟩,⟨_,Ab Bhx,rfl⟩,trivial⟩ (EvB.map ⟨⟨rfl,rfl⟩,⟨rfl,rfl⟩,trivial⟩) ((Be (cs:=[(iV (a))]) rfl rfl (Nat.le_of_ble_eq_true rfl)).trans ((Be (cs:=[(iV (b))]) rfl rfl (Nat.le_of_ble_eq_true rfl)).trans rfl))) (Cx rfl (Li (i:=0) (vs:=[(iV (a)),(iV (b))]) (c':=[(iV (a)),(iV (b))]) ⟨_,Ab Biz,rfl⟩ rfl rfl rfl rfl (Zh ⟨rfl,rfl,trivial⟩) rfl (Nat.le_of_ble_eq_true rfl) rfl ?_))
 refine l_k k3 (Aq ?_)
 have r5:Val ρ (.agg #[(iV (a)),(iV (b))]) (⟨a,b⟩:Span):=Span.shut (x:=(⟨a,b⟩:Span)) (show I64 (a) from by constructor <;> omega) (show I64 (b) from by constructor <;> omega)
 refine hret _ _ _ _ _ [(.agg #[(iV (a)),(iV (b))])] ⟨(Qh ⟨_,Bie,rfl⟩ ⟨_,Ab Biz,rfl⟩ rfl (i:=0) rfl rfl),trivial⟩ Bmh (⟨Bml,rfl,Abz (v:=(.agg #[(iV (a)),(iV (b))])) rfl (Val.cast ?_ r5)⟩)
 ·rfl
theorem Amy  :CallsH (CX mn X) 14 #[] ρ σ (fun w ρ' σ'=>Ro.le ρ ρ'∧σ' = σ∧Val ρ' w (Tv:Lab)):=by
 refine Lt (n:=10) (args:=[]) [.cell 0 62] Tryd.func14 rfl rfl rfl rfl fun Q hret hnor=>w_q rfl rfl fun K1 k1=>Arv (Ct Aph fun k2=>?_)
 refine Arx rfl rfl k1 fun K3 k3=>Arv (Bi (α:=ByteArray) (xs:=[(ByteArray.mk #[100,121,101]),(ByteArray.mk #[104,111,110,101,121]),(ByteArray.mk #[111,108,100])]) (vs:=[(.string ((ByteArray.mk #[100,121,101]))),(.string ((ByteArray.mk #[104,111,110,101,121]))),(.string ((ByteArray.mk #[111,108,100])))]) Bic ty9 zr9 rfl (by decide) (Dk (os:=[.const (.string (ByteArray.mk #[100,121,101])),.const (.string (ByteArray.mk #[104,111,110,101,121])),.const (.string (ByteArray.mk #[111,108,100]))]) ⟨rfl,rfl,rfl,trivial⟩) ⟨(Jk.2 ⟨rfl,Nat.le_of_ble_eq_true rfl⟩),(Jk.2 ⟨rfl,Nat.le_of_ble_eq_true rfl⟩),(Jk.2 ⟨rfl,Nat.le_of_ble_eq_true rfl⟩),trivial⟩ rfl (by decide) fun k4 cs4 R4=>?_)
 have G4:Grow ρ 9 (.slice (some ⟨k4,0,none⟩) 3 3) ([(ByteArray.mk #[100,121,101]),(ByteArray.mk #[104,111,110,101,121]),(ByteArray.mk #[111,108,100])]:List ByteArray) [(k4,oC cs4.toArray 9)]:=Bs R4 rfl (by decide)
 refine Arv (Bi (α:=Int) (xs:=[1,0,2]) (vs:=[(iV (1)),(iV (0)),(iV (2))]) Bil Pi Acl rfl (by decide) (Dk (os:=[.const (.int .i64 1),.const (z0),.const (.int .i64 2)]) ⟨rfl,rfl,rfl,trivial⟩) ⟨(Cv.2 ⟨rfl,by constructor <;> omega⟩),(Cv.2 ⟨rfl,by constructor <;> omega⟩),(Cv.2 ⟨rfl,by constructor <;> omega⟩),trivial⟩ rfl (by decide) fun k5 cs5 R5=>?_)
 have G5:Grow ρ 83 (.slice (some ⟨k5,0,none⟩) 3 3) ([1,0,2]:List Int) [(k5,oC cs5.toArray 83)]:=Bs R5 rfl (by decide)
 refine Ca G5 fun ρ6 l6 r6=>?_
 replace G4:=Bmk l6 G4
 have r7:Val ρ6 (.agg #[(.string ((ByteArray.mk #[119,97,116,101,114]))),(.slice (some ⟨k5,0,none⟩) 3 3),(.bool (false))]) (⟨(ByteArray.mk #[119,97,116,101,114]),([1,0,2]:List Int),false⟩:FTest):=FTest.shut (x:=(⟨(ByteArray.mk #[119,97,116,101,114]),([1,0,2]:List Int),false⟩:FTest)) (show ((ByteArray.mk #[119,97,116,101,114])).size < 2 ^ 60 from Nat.le_of_ble_eq_true rfl) r6
 refine l_v (Dn (ns:=[1,1,1]) (vs:=[(0,(.string ((ByteArray.mk #[119,97,116,101,114])))),(1,(.slice (some ⟨k5,0,none⟩) 3 3))]) (zc:=Aag) (cs:=[(.string ((ByteArray.mk #[119,97,116,101,114]))),(.slice (some ⟨k5,0,none⟩) 3 3),(.bool (false))]) Bjp Ws rfl ⟨⟨_,Ab Bkd,rfl⟩,⟨_,Ab Blf,rfl⟩,⟨_,Ab Biw,rfl⟩,trivial⟩ (EvB.map ⟨⟨rfl,rfl⟩,⟨rfl,rfl⟩,trivial⟩) ((Be (cs:=[(.string ((ByteArray.mk #[119,97,116,101,114])))]) rfl rfl (Nat.le_of_ble_eq_true rfl)).trans ((Be (cs:=[(.slice (some ⟨k5,0,none⟩) 3 3)]) (Val.cells_l r6) rfl (Nat.le_of_ble_eq_true rfl)).trans rfl))) (Arv (Bi (α:=Int) (xs:=[2,2,1]) (vs:=[(iV (2)),(iV (2)),(iV (1))]) Bil Pi Acl rfl (by decide) (Dk (os:=[.const (.int .i64 2),.const (.int .i64 2),.const (.int .i64 1)]) ⟨rfl,rfl,rfl,trivial⟩) ⟨(Cv.2 ⟨rfl,by constructor <;> omega⟩),(Cv.2 ⟨rfl,by constructor <;> omega⟩),(Cv.2 ⟨rfl,by constructor <;> omega⟩),trivial⟩ rfl (by decide) fun k8 cs8 R8=>?_))
 have G8:Grow ρ6 83 (.slice (some ⟨k8,0,none⟩) 3 3) ([2,2,1]:List Int) [(k8,oC cs8.toArray 83)]:=Bs R8 rfl (by decide)
 refine Ca G8 fun ρ9 l9 r9=>?_
 replace G4:=Bmk l9 G4
 replace r7:=Bmo l9 r7
 have r10:Val ρ9 (.agg #[(.string ((ByteArray.mk #[115,109,101,108,108]))),(.slice (some ⟨k8,0,none⟩) 3 3),(.bool (false))]) (⟨(ByteArray.mk #[115,109,101,108,108]),([2,2,1]:List Int),false⟩:FTest):=FTest.shut (x:=(⟨(ByteArray.mk #[115,109,101,108,108]),([2,2,1]:List Int),false⟩:FTest)) (show ((ByteArray.mk #[115,109,101,108,108])).size < 2 ^ 60 from Nat.le_of_ble_eq_true rfl) r9
 refine l_v (Dn (ns:=[1,1,1]) (vs:=[(0,(.string ((ByteArray.mk #[115,109,101,108,108])))),(1,(.slice (some ⟨k8,0,none⟩) 3 3))]) (zc:=Aag) (cs:=[(.string ((ByteArray.mk #[115,109,101,108,108]))),(.slice (some ⟨k8,0,none⟩) 3 3),(.bool (false))]) Bjp Ws rfl ⟨⟨_,Ab Bkd,rfl⟩,⟨_,Ab Blf,rfl⟩,⟨_,Ab Biw,rfl⟩,trivial⟩ (EvB.map ⟨⟨rfl,rfl⟩,⟨rfl,rfl⟩,trivial⟩) ((Be (cs:=[(.string ((ByteArray.mk #[115,109,101,108,108])))]) rfl rfl (Nat.le_of_ble_eq_true rfl)).trans ((Be (cs:=[(.slice (some ⟨k8,0,none⟩) 3 3)]) (Val.cells_l r9) rfl (Nat.le_of_ble_eq_true rfl)).trans rfl))) (Arv (Bi (α:=Int) (xs:=[2,1,2]) (vs:=[(iV (2)),(iV (1)),(iV (2))]) Bil Pi Acl rfl (by decide) (Dk (os:=[.const (.int .i64 2),.const (.int .i64 1),.const (.int .i64 2)]) ⟨rfl,rfl,rfl,trivial⟩) ⟨(Cv.2 ⟨rfl,by constructor <;> omega⟩),(Cv.2 ⟨rfl,by constructor <;> omega⟩),(Cv.2 ⟨rfl,by constructor <;> omega⟩),trivial⟩ rfl (by decide) fun k11 cs11 R11=>?_))
 have G11:Grow ρ9 83 (.slice (some ⟨k11,0,none⟩) 3 3) ([2,1,2]:List Int) [(k11,oC cs11.toArray 83)]:=Bs R11 rfl (by decide)
 refine Ca G11 fun ρ12 l12 r12=>?_
 replace G4:=Bmk l12 G4
 replace r7:=Bmo l12 r7
 replace r10:=Bmo l12 r10
 have r13:Val ρ12 (.agg #[(.string ((ByteArray.mk #[119,101,105,103,104,116]))),(.slice (some ⟨k11,0,none⟩) 3 3),(.bool (false))]) (⟨(ByteArray.mk #[119,101,105,103,104,116]),([2,1,2]:List Int),false⟩:FTest):=FTest.shut (x:=(⟨(ByteArray.mk #[119,101,105,103,104,116]),([2,1,2]:List Int),false⟩:FTest)) (show ((ByteArray.mk #[119,101,105,103,104,116])).size < 2 ^ 60 from Nat.le_of_ble_eq_true rfl) r12
 refine l_v (Dn (ns:=[1,1,1]) (vs:=[(0,(.string ((ByteArray.mk #[119,101,105,103,104,116])))),(1,(.slice (some ⟨k11,0,none⟩) 3 3))]) (zc:=Aag) (cs:=[(.string ((ByteArray.mk #[119,101,105,103,104,116]))),(.slice (some ⟨k11,0,none⟩) 3 3),(.bool (false))]) Bjp Ws rfl ⟨⟨_,Ab Bkd,rfl⟩,⟨_,Ab Blf,rfl⟩,⟨_,Ab Biw,rfl⟩,trivial⟩ (EvB.map ⟨⟨rfl,rfl⟩,⟨rfl,rfl⟩,trivial⟩) ((Be (cs:=[(.string ((ByteArray.mk #[119,101,105,103,104,116])))]) rfl rfl (Nat.le_of_ble_eq_true rfl)).trans ((Be (cs:=[(.slice (some ⟨k11,0,none⟩) 3 3)]) (Val.cells_l r12) rfl (Nat.le_of_ble_eq_true rfl)).trans rfl))) (Arv (Bi (α:=FTest) (xs:=[(⟨(ByteArray.mk #[119,97,116,101,114]),([1,0,2]:List Int),false⟩:FTest),(⟨(ByteArray.mk #[115,109,101,108,108]),([2,2,1]:List Int),false⟩:FTest),(⟨(ByteArray.mk #[119,101,105,103,104,116]),([2,1,2]:List Int),false⟩:FTest)]) (vs:=[(.agg #[(.string ((ByteArray.mk #[119,97,116,101,114]))),(.slice (some ⟨k5,0,none⟩) 3 3),(.bool (false))]),(.agg #[(.string ((ByteArray.mk #[115,109,101,108,108]))),(.slice (some ⟨k8,0,none⟩) 3 3),(.bool (false))]),(.agg #[(.string ((ByteArray.mk #[119,101,105,103,104,116]))),(.slice (some ⟨k11,0,none⟩) 3 3),(.bool (false))])]) Bjs Um Ws rfl (by decide) (Dk (os:=[.tmp 3,.tmp 5,.tmp 7]) ⟨rfl,rfl,rfl,trivial⟩) ⟨r7,r10,r13,trivial⟩ rfl (by decide) fun k14 cs14 R14=>?_))
 have G14:Grow ρ12 108 (.slice (some ⟨k14,0,none⟩) 3 3) ([(⟨(ByteArray.mk #[119,97,116,101,114]),([1,0,2]:List Int),false⟩:FTest),(⟨(ByteArray.mk #[115,109,101,108,108]),([2,2,1]:List Int),false⟩:FTest),(⟨(ByteArray.mk #[119,101,105,103,104,116]),([2,1,2]:List Int),false⟩:FTest)]:List FTest) [(k14,oC cs14.toArray 108)]:=Bs R14 rfl (by decide)
 refine Bj (Bmj Arz) (Ca G4 fun ρ15 l15 r15=>?_)
 replace G14:=Bmk l15 G14
 refine Ca G14 fun ρ16 l16 r16=>?_
 replace r15:=Bmo l16 r15
 have r17:Val ρ16 (.agg #[(.slice (some ⟨k4,0,none⟩) 3 3),(iV (2)),(.slice (some ⟨k14,0,none⟩) 3 3)]) (⟨([(ByteArray.mk #[100,121,101]),(ByteArray.mk #[104,111,110,101,121]),(ByteArray.mk #[111,108,100])]:List ByteArray),2,([(⟨(ByteArray.mk #[119,97,116,101,114]),([1,0,2]:List Int),false⟩:FTest),(⟨(ByteArray.mk #[115,109,101,108,108]),([2,2,1]:List Int),false⟩:FTest),(⟨(ByteArray.mk #[119,101,105,103,104,116]),([2,1,2]:List Int),false⟩:FTest)]:List FTest)⟩:Lab):=Lab.shut (x:=(⟨([(ByteArray.mk #[100,121,101]),(ByteArray.mk #[104,111,110,101,121]),(ByteArray.mk #[111,108,100])]:List ByteArray),2,([(⟨(ByteArray.mk #[119,97,116,101,114]),([1,0,2]:List Int),false⟩:FTest),(⟨(ByteArray.mk #[115,109,101,108,108]),([2,2,1]:List Int),false⟩:FTest),(⟨(ByteArray.mk #[119,101,105,103,104,116]),([2,1,2]:List Int),false⟩:FTest)]:List FTest)⟩:Lab)) r15 (show I64 (2) from by constructor <;> omega) r16
 refine l_v (Dn (ns:=[1,1,1]) (vs:=[(0,(.slice (some ⟨k4,0,none⟩) 3 3)),(1,(iV (2))),(2,(.slice (some ⟨k14,0,none⟩) 3 3))]) (zc:=Amk) (cs:=[(.slice (some ⟨k4,0,none⟩) 3 3),(iV (2)),(.slice (some ⟨k14,0,none⟩) 3 3)]) Biy Aph rfl ⟨⟨_,Ab Bkp,rfl⟩,⟨_,Ab Bhx,rfl⟩,⟨_,Ab Tryd.typeInfo60,rfl⟩,trivial⟩ (EvB.map ⟨⟨rfl,rfl⟩,⟨rfl,rfl⟩,⟨rfl,rfl⟩,trivial⟩) ((Be (cs:=[(.slice (some ⟨k4,0,none⟩) 3 3)]) (Val.cells_l r15) rfl (Nat.le_of_ble_eq_true rfl)).trans ((Be (cs:=[(iV (2))]) rfl rfl (Nat.le_of_ble_eq_true rfl)).trans ((Be (cs:=[(.slice (some ⟨k14,0,none⟩) 3 3)]) (Val.cells_l r16) rfl (Nat.le_of_ble_eq_true rfl)).trans rfl)))) (Cx rfl (Li (i:=0) (vs:=[(.slice (some ⟨k4,0,none⟩) 3 3),(iV (2)),(.slice (some ⟨k14,0,none⟩) 3 3)]) (c':=[(.slice (some ⟨k4,0,none⟩) 3 3),(iV (2)),(.slice (some ⟨k14,0,none⟩) 3 3)]) ⟨_,Ab Ble,rfl⟩ rfl rfl rfl rfl (Zh ⟨(Val.single_l r15),rfl,(Val.single_l r16),trivial⟩) rfl (Nat.le_of_ble_eq_true rfl) rfl ?_))
 refine l_k k3 (Aq ?_)
 have r18:Val ρ16 (.agg #[(.slice (some ⟨k4,0,none⟩) 3 3),(iV (2)),(.slice (some ⟨k14,0,none⟩) 3 3)]) (⟨([(ByteArray.mk #[100,121,101]),(ByteArray.mk #[104,111,110,101,121]),(ByteArray.mk #[111,108,100])]:List ByteArray),2,([(⟨(ByteArray.mk #[119,97,116,101,114]),([1,0,2]:List Int),false⟩:FTest),(⟨(ByteArray.mk #[115,109,101,108,108]),([2,2,1]:List Int),false⟩:FTest),(⟨(ByteArray.mk #[119,101,105,103,104,116]),([2,1,2]:List Int),false⟩:FTest)]:List FTest)⟩:Lab):=Lab.shut (x:=(⟨([(ByteArray.mk #[100,121,101]),(ByteArray.mk #[104,111,110,101,121]),(ByteArray.mk #[111,108,100])]:List ByteArray),2,([(⟨(ByteArray.mk #[119,97,116,101,114]),([1,0,2]:List Int),false⟩:FTest),(⟨(ByteArray.mk #[115,109,101,108,108]),([2,2,1]:List Int),false⟩:FTest),(⟨(ByteArray.mk #[119,101,105,103,104,116]),([2,1,2]:List Int),false⟩:FTest)]:List FTest)⟩:Lab)) r15 (show I64 (2) from by constructor <;> omega) r16
 refine hret _ _ _ _ _ [(.agg #[(.slice (some ⟨k4,0,none⟩) 3 3),(iV (2)),(.slice (some ⟨k14,0,none⟩) 3 3)])] ⟨(Qh ⟨_,Biy,rfl⟩ ⟨_,Ab Ble,rfl⟩ rfl (i:=0) rfl rfl),trivial⟩ Bmh (⟨(Bmm (Bmm (Bmm (Bmm l6 l9) l12) l15) l16),rfl,Abz (v:=(.agg #[(.slice (some ⟨k4,0,none⟩) 3 3),(iV (2)),(.slice (some ⟨k14,0,none⟩) 3 3)])) rfl (Val.cast ?_ r18)⟩)
 ·rfl
set_option maxHeartbeats 1000000 in
theorem Aej  :CallsH (CX mn X) 15 #[] ρ σ (fun w ρ' σ'=>Ro.le ρ ρ'∧σ' = σ∧Val ρ' w (Fd:Market)):=by
 refine Lt (n:=27) (args:=[]) [.cell 0 40] Tryd.func15 rfl rfl rfl rfl fun Q hret hnor=>w_q rfl rfl fun K1 k1=>Arv (Ct Apg fun k2=>?_)
 refine Arx rfl rfl k1 fun K3 k3=>Arv (Bi (α:=ByteArray) (xs:=[(ByteArray.mk #[97,110,97]),(ByteArray.mk #[114,117,105]),(ByteArray.mk #[115,111,108])]) (vs:=[(.string ((ByteArray.mk #[97,110,97]))),(.string ((ByteArray.mk #[114,117,105]))),(.string ((ByteArray.mk #[115,111,108])))]) Bic ty9 zr9 rfl (by decide) (Dk (os:=[.const (.string (ByteArray.mk #[97,110,97])),.const (.string (ByteArray.mk #[114,117,105])),.const (.string (ByteArray.mk #[115,111,108]))]) ⟨rfl,rfl,rfl,trivial⟩) ⟨(Jk.2 ⟨rfl,Nat.le_of_ble_eq_true rfl⟩),(Jk.2 ⟨rfl,Nat.le_of_ble_eq_true rfl⟩),(Jk.2 ⟨rfl,Nat.le_of_ble_eq_true rfl⟩),trivial⟩ rfl (by decide) fun k4 cs4 R4=>?_)
 have G4:Grow ρ 9 (.slice (some ⟨k4,0,none⟩) 3 3) ([(ByteArray.mk #[97,110,97]),(ByteArray.mk #[114,117,105]),(ByteArray.mk #[115,111,108])]:List ByteArray) [(k4,oC cs4.toArray 9)]:=Bs R4 rfl (by decide)
 refine Arv (Bi (α:=ByteArray) (xs:=[(ByteArray.mk #[105,114,111,110]),(ByteArray.mk #[115,97,108,116])]) (vs:=[(.string ((ByteArray.mk #[105,114,111,110]))),(.string ((ByteArray.mk #[115,97,108,116])))]) Bic ty9 zr9 rfl (by decide) (Dk (os:=[.const (.string (ByteArray.mk #[105,114,111,110])),.const (.string (ByteArray.mk #[115,97,108,116]))]) ⟨rfl,rfl,trivial⟩) ⟨(Jk.2 ⟨rfl,Nat.le_of_ble_eq_true rfl⟩),(Jk.2 ⟨rfl,Nat.le_of_ble_eq_true rfl⟩),trivial⟩ rfl (by decide) fun k5 cs5 R5=>?_)
 have G5:Grow ρ 9 (.slice (some ⟨k5,0,none⟩) 2 2) ([(ByteArray.mk #[105,114,111,110]),(ByteArray.mk #[115,97,108,116])]:List ByteArray) [(k5,oC cs5.toArray 9)]:=Bs R5 rfl (by decide)
 refine Arv (Cm (vs:=[(iV (90)),(iV (100))]) (Hy (a:=90) (b:=100) (by constructor <;> omega) (by constructor <;> omega)) Bjr rfl rfl ⟨rfl,rfl,trivial⟩ fun v6 ρ6 σ6 hc6=>?_)
 obtain ⟨l6,s6,r6⟩:=hc6
 replace s6:=s6.symm; subst s6
 replace G4:=Bmk l6 G4
 replace G5:=Bmk l6 G5
 refine Arv (Cm (vs:=[(iV (10)),(iV (20))]) (Hy (a:=10) (b:=20) (by constructor <;> omega) (by constructor <;> omega)) Bjr rfl rfl ⟨rfl,rfl,trivial⟩ fun v7 ρ7 σ7 hc7=>?_)
 obtain ⟨l7,s7,r7⟩:=hc7
 replace s7:=s7.symm; subst s7
 replace G4:=Bmk l7 G4
 replace G5:=Bmk l7 G5
 replace r6:=Bmo l7 r6
 refine Arv (Cm (vs:=[(iV (5)),(iV (9))]) (Hy (a:=5) (b:=9) (by constructor <;> omega) (by constructor <;> omega)) Bjr rfl rfl ⟨rfl,rfl,trivial⟩ fun v8 ρ8 σ8 hc8=>?_)
 obtain ⟨l8,s8,r8⟩:=hc8
 replace s8:=s8.symm; subst s8
 replace G4:=Bmk l8 G4
 replace G5:=Bmk l8 G5
 replace r6:=Bmo l8 r6
 replace r7:=Bmo l8 r7
 refine Arv (Bi (α:=Span) (xs:=[(⟨10,20⟩:Span),(⟨5,9⟩:Span)]) (vs:=[v7,v8]) Bis Mx Aak rfl (by decide) (Dk (os:=[.tmp 4,.tmp 5]) ⟨rfl,rfl,trivial⟩) ⟨r7,r8,trivial⟩ rfl (by decide) fun k9 cs9 R9=>?_)
 have G9:Grow ρ8 27 (.slice (some ⟨k9,0,none⟩) 2 2) ([(⟨10,20⟩:Span),(⟨5,9⟩:Span)]:List Span) [(k9,oC cs9.toArray 27)]:=Bs R9 rfl (by decide)
 refine Ca G9 fun ρ10 l10 r10=>?_
 replace G4:=Bmk l10 G4
 replace G5:=Bmk l10 G5
 replace r6:=Bmo l10 r6
 obtain ⟨e11_,⟨i11_1a,i11_1b⟩,⟨i11_2a,i11_2b⟩⟩:=Span.open_ r6
 have e11_c:v6.cells = [(iV (90)),(iV (100))].toArray:=by rw [e11_]; rfl
 have r12:Val ρ10 (.agg #[(.string ((ByteArray.mk #[104,105,108,108]))),(iV (0)),(iV (90)),(iV (100)),(.slice (some ⟨k9,0,none⟩) 2 2)]) (⟨(ByteArray.mk #[104,105,108,108]),0,⟨90,100⟩,([(⟨10,20⟩:Span),(⟨5,9⟩:Span)]:List Span)⟩:FField):=FField.shut (x:=(⟨(ByteArray.mk #[104,105,108,108]),0,⟨90,100⟩,([(⟨10,20⟩:Span),(⟨5,9⟩:Span)]:List Span)⟩:FField)) (show ((ByteArray.mk #[104,105,108,108])).size < 2 ^ 60 from Nat.le_of_ble_eq_true rfl) (show I64 (0) from by constructor <;> omega) (show I64 (90) from by constructor <;> omega) (show I64 (100) from by constructor <;> omega) r10
 refine l_v (Dn (ns:=[1,1,2,1]) (vs:=[(0,(.string ((ByteArray.mk #[104,105,108,108])))),(2,v6),(3,(.slice (some ⟨k9,0,none⟩) 2 2))]) (zc:=Aah) (cs:=[(.string ((ByteArray.mk #[104,105,108,108]))),(iV (0)),(iV (90)),(iV (100)),(.slice (some ⟨k9,0,none⟩) 2 2)]) Bij Xu rfl ⟨⟨_,Ab Bkd,rfl⟩,⟨_,Ab Bhx,rfl⟩,⟨_,Ab Biz,rfl⟩,⟨_,Ab Bkr,rfl⟩,trivial⟩ (EvB.map ⟨⟨rfl,rfl⟩,⟨rfl,rfl⟩,⟨rfl,rfl⟩,trivial⟩) ((Be (cs:=[(.string ((ByteArray.mk #[104,105,108,108])))]) rfl rfl (Nat.le_of_ble_eq_true rfl)).trans ((Be (cs:=[(iV (90)),(iV (100))]) e11_c rfl (Nat.le_of_ble_eq_true rfl)).trans ((Be (cs:=[(.slice (some ⟨k9,0,none⟩) 2 2)]) (Val.cells_l r10) rfl (Nat.le_of_ble_eq_true rfl)).trans rfl)))) (Arv (Cm (vs:=[(iV (40)),(iV (50))]) (Hy (a:=40) (b:=50) (by constructor <;> omega) (by constructor <;> omega)) Bjr rfl rfl ⟨rfl,rfl,trivial⟩ fun v13 ρ13 σ13 hc13=>?_))
 obtain ⟨l13,s13,r13⟩:=hc13
 replace s13:=s13.symm; subst s13
 replace G4:=Bmk l13 G4
 replace G5:=Bmk l13 G5
 replace r12:=Bmo l13 r12
 refine Arv (Cm (vs:=[(iV (30)),(iV (40))]) (Hy (a:=30) (b:=40) (by constructor <;> omega) (by constructor <;> omega)) Bjr rfl rfl ⟨rfl,rfl,trivial⟩ fun v14 ρ14 σ14 hc14=>?_)
 obtain ⟨l14,s14,r14⟩:=hc14
 replace s14:=s14.symm; subst s14
 replace G4:=Bmk l14 G4
 replace G5:=Bmk l14 G5
 replace r12:=Bmo l14 r12
 replace r13:=Bmo l14 r13
 refine Arv (Cm (vs:=[(iV (5)),(iV (6))]) (Hy (a:=5) (b:=6) (by constructor <;> omega) (by constructor <;> omega)) Bjr rfl rfl ⟨rfl,rfl,trivial⟩ fun v15 ρ15 σ15 hc15=>?_)
 obtain ⟨l15,s15,r15⟩:=hc15
 replace s15:=s15.symm; subst s15
 replace G4:=Bmk l15 G4
 replace G5:=Bmk l15 G5
 replace r12:=Bmo l15 r12
 replace r13:=Bmo l15 r13
 replace r14:=Bmo l15 r14
 refine Arv (Bi (α:=Span) (xs:=[(⟨30,40⟩:Span),(⟨5,6⟩:Span)]) (vs:=[v14,v15]) Bis Mx Aak rfl (by decide) (Dk (os:=[.tmp 9,.tmp 10]) ⟨rfl,rfl,trivial⟩) ⟨r14,r15,trivial⟩ rfl (by decide) fun k16 cs16 R16=>?_)
 have G16:Grow ρ15 27 (.slice (some ⟨k16,0,none⟩) 2 2) ([(⟨30,40⟩:Span),(⟨5,6⟩:Span)]:List Span) [(k16,oC cs16.toArray 27)]:=Bs R16 rfl (by decide)
 refine Ca G16 fun ρ17 l17 r17=>?_
 replace G4:=Bmk l17 G4
 replace G5:=Bmk l17 G5
 replace r12:=Bmo l17 r12
 replace r13:=Bmo l17 r13
 obtain ⟨e18_,⟨i18_1a,i18_1b⟩,⟨i18_2a,i18_2b⟩⟩:=Span.open_ r13
 have e18_c:v13.cells = [(iV (40)),(iV (50))].toArray:=by rw [e18_]; rfl
 have r19:Val ρ17 (.agg #[(.string ((ByteArray.mk #[108,111,119]))),(iV (1)),(iV (40)),(iV (50)),(.slice (some ⟨k16,0,none⟩) 2 2)]) (⟨(ByteArray.mk #[108,111,119]),1,⟨40,50⟩,([(⟨30,40⟩:Span),(⟨5,6⟩:Span)]:List Span)⟩:FField):=FField.shut (x:=(⟨(ByteArray.mk #[108,111,119]),1,⟨40,50⟩,([(⟨30,40⟩:Span),(⟨5,6⟩:Span)]:List Span)⟩:FField)) (show ((ByteArray.mk #[108,111,119])).size < 2 ^ 60 from Nat.le_of_ble_eq_true rfl) (show I64 (1) from by constructor <;> omega) (show I64 (40) from by constructor <;> omega) (show I64 (50) from by constructor <;> omega) r17
 refine l_v (Dn (ns:=[1,1,2,1]) (vs:=[(0,(.string ((ByteArray.mk #[108,111,119])))),(1,(iV (1))),(2,v13),(3,(.slice (some ⟨k16,0,none⟩) 2 2))]) (zc:=Aah) (cs:=[(.string ((ByteArray.mk #[108,111,119]))),(iV (1)),(iV (40)),(iV (50)),(.slice (some ⟨k16,0,none⟩) 2 2)]) Bij Xu rfl ⟨⟨_,Ab Bkd,rfl⟩,⟨_,Ab Bhx,rfl⟩,⟨_,Ab Biz,rfl⟩,⟨_,Ab Bkr,rfl⟩,trivial⟩ (EvB.map ⟨⟨rfl,rfl⟩,⟨rfl,rfl⟩,⟨rfl,rfl⟩,⟨rfl,rfl⟩,trivial⟩) ((Be (cs:=[(.string ((ByteArray.mk #[108,111,119])))]) rfl rfl (Nat.le_of_ble_eq_true rfl)).trans ((Be (cs:=[(iV (1))]) rfl rfl (Nat.le_of_ble_eq_true rfl)).trans ((Be (cs:=[(iV (40)),(iV (50))]) e18_c rfl (Nat.le_of_ble_eq_true rfl)).trans ((Be (cs:=[(.slice (some ⟨k16,0,none⟩) 2 2)]) (Val.cells_l r17) rfl (Nat.le_of_ble_eq_true rfl)).trans rfl))))) (Arv (Cm (vs:=[(iV (60)),(iV (70))]) (Hy (a:=60) (b:=70) (by constructor <;> omega) (by constructor <;> omega)) Bjr rfl rfl ⟨rfl,rfl,trivial⟩ fun v20 ρ20 σ20 hc20=>?_))
 obtain ⟨l20,s20,r20⟩:=hc20
 replace s20:=s20.symm; subst s20
 replace G4:=Bmk l20 G4
 replace G5:=Bmk l20 G5
 replace r12:=Bmo l20 r12
 replace r19:=Bmo l20 r19
 refine Arv (Cm (vs:=[(iV (10)),(iV (15))]) (Hy (a:=10) (b:=15) (by constructor <;> omega) (by constructor <;> omega)) Bjr rfl rfl ⟨rfl,rfl,trivial⟩ fun v21 ρ21 σ21 hc21=>?_)
 obtain ⟨l21,s21,r21⟩:=hc21
 replace s21:=s21.symm; subst s21
 replace G4:=Bmk l21 G4
 replace G5:=Bmk l21 G5
 replace r12:=Bmo l21 r12
 replace r19:=Bmo l21 r19
 replace r20:=Bmo l21 r20
 refine Arv (Cm (vs:=[(iV (20)),(iV (30))]) (Hy (a:=20) (b:=30) (by constructor <;> omega) (by constructor <;> omega)) Bjr rfl rfl ⟨rfl,rfl,trivial⟩ fun v22 ρ22 σ22 hc22=>?_)
 obtain ⟨l22,s22,r22⟩:=hc22
 replace s22:=s22.symm; subst s22
 replace G4:=Bmk l22 G4
 replace G5:=Bmk l22 G5
 replace r12:=Bmo l22 r12
 replace r19:=Bmo l22 r19
 replace r20:=Bmo l22 r20
 replace r21:=Bmo l22 r21
 refine Arv (Bi (α:=Span) (xs:=[(⟨10,15⟩:Span),(⟨20,30⟩:Span)]) (vs:=[v21,v22]) Bis Mx Aak rfl (by decide) (Dk (os:=[.tmp 14,.tmp 15]) ⟨rfl,rfl,trivial⟩) ⟨r21,r22,trivial⟩ rfl (by decide) fun k23 cs23 R23=>?_)
 have G23:Grow ρ22 27 (.slice (some ⟨k23,0,none⟩) 2 2) ([(⟨10,15⟩:Span),(⟨20,30⟩:Span)]:List Span) [(k23,oC cs23.toArray 27)]:=Bs R23 rfl (by decide)
 refine Ca G23 fun ρ24 l24 r24=>?_
 replace G4:=Bmk l24 G4
 replace G5:=Bmk l24 G5
 replace r12:=Bmo l24 r12
 replace r19:=Bmo l24 r19
 replace r20:=Bmo l24 r20
 obtain ⟨e25_,⟨i25_1a,i25_1b⟩,⟨i25_2a,i25_2b⟩⟩:=Span.open_ r20
 have e25_c:v20.cells = [(iV (60)),(iV (70))].toArray:=by rw [e25_]; rfl
 have r26:Val ρ24 (.agg #[(.string ((ByteArray.mk #[101,97,115,116]))),(iV (2)),(iV (60)),(iV (70)),(.slice (some ⟨k23,0,none⟩) 2 2)]) (⟨(ByteArray.mk #[101,97,115,116]),2,⟨60,70⟩,([(⟨10,15⟩:Span),(⟨20,30⟩:Span)]:List Span)⟩:FField):=FField.shut (x:=(⟨(ByteArray.mk #[101,97,115,116]),2,⟨60,70⟩,([(⟨10,15⟩:Span),(⟨20,30⟩:Span)]:List Span)⟩:FField)) (show ((ByteArray.mk #[101,97,115,116])).size < 2 ^ 60 from Nat.le_of_ble_eq_true rfl) (show I64 (2) from by constructor <;> omega) (show I64 (60) from by constructor <;> omega) (show I64 (70) from by constructor <;> omega) r24
 refine l_v (Dn (ns:=[1,1,2,1]) (vs:=[(0,(.string ((ByteArray.mk #[101,97,115,116])))),(1,(iV (2))),(2,v20),(3,(.slice (some ⟨k23,0,none⟩) 2 2))]) (zc:=Aah) (cs:=[(.string ((ByteArray.mk #[101,97,115,116]))),(iV (2)),(iV (60)),(iV (70)),(.slice (some ⟨k23,0,none⟩) 2 2)]) Bij Xu rfl ⟨⟨_,Ab Bkd,rfl⟩,⟨_,Ab Bhx,rfl⟩,⟨_,Ab Biz,rfl⟩,⟨_,Ab Bkr,rfl⟩,trivial⟩ (EvB.map ⟨⟨rfl,rfl⟩,⟨rfl,rfl⟩,⟨rfl,rfl⟩,⟨rfl,rfl⟩,trivial⟩) ((Be (cs:=[(.string ((ByteArray.mk #[101,97,115,116])))]) rfl rfl (Nat.le_of_ble_eq_true rfl)).trans ((Be (cs:=[(iV (2))]) rfl rfl (Nat.le_of_ble_eq_true rfl)).trans ((Be (cs:=[(iV (60)),(iV (70))]) e25_c rfl (Nat.le_of_ble_eq_true rfl)).trans ((Be (cs:=[(.slice (some ⟨k23,0,none⟩) 2 2)]) (Val.cells_l r24) rfl (Nat.le_of_ble_eq_true rfl)).trans rfl))))) (Arv (Bi (α:=FField) (xs:=[(⟨(ByteArray.mk #[104,105,108,108]),0,⟨90,100⟩,([(⟨10,20⟩:Span),(⟨5,9⟩:Span)]:List Span)⟩:FField),(⟨(ByteArray.mk #[108,111,119]),1,⟨40,50⟩,([(⟨30,40⟩:Span),(⟨5,6⟩:Span)]:List Span)⟩:FField),(⟨(ByteArray.mk #[101,97,115,116]),2,⟨60,70⟩,([(⟨10,15⟩:Span),(⟨20,30⟩:Span)]:List Span)⟩:FField)]) (vs:=[(.agg #[(.string ((ByteArray.mk #[104,105,108,108]))),(iV (0)),(iV (90)),(iV (100)),(.slice (some ⟨k9,0,none⟩) 2 2)]),(.agg #[(.string ((ByteArray.mk #[108,111,119]))),(iV (1)),(iV (40)),(iV (50)),(.slice (some ⟨k16,0,none⟩) 2 2)]),(.agg #[(.string ((ByteArray.mk #[101,97,115,116]))),(iV (2)),(iV (60)),(iV (70)),(.slice (some ⟨k23,0,none⟩) 2 2)])]) Big ty67 Xu rfl (by decide) (Dk (os:=[.tmp 7,.tmp 12,.tmp 17]) ⟨rfl,rfl,rfl,trivial⟩) ⟨r12,r19,r26,trivial⟩ rfl (by decide) fun k27 cs27 R27=>?_))
 have G27:Grow ρ24 43 (.slice (some ⟨k27,0,none⟩) 3 3) ([(⟨(ByteArray.mk #[104,105,108,108]),0,⟨90,100⟩,([(⟨10,20⟩:Span),(⟨5,9⟩:Span)]:List Span)⟩:FField),(⟨(ByteArray.mk #[108,111,119]),1,⟨40,50⟩,([(⟨30,40⟩:Span),(⟨5,6⟩:Span)]:List Span)⟩:FField),(⟨(ByteArray.mk #[101,97,115,116]),2,⟨60,70⟩,([(⟨10,15⟩:Span),(⟨20,30⟩:Span)]:List Span)⟩:FField)]:List FField) [(k27,oC cs27.toArray 43)]:=Bs R27 rfl (by decide)
 refine Arv (Bi (α:=Int) (xs:=[0,1]) (vs:=[(iV (0)),(iV (1))]) Bhy ty3 zr3 rfl (by decide) (Dk (os:=[.const (z0),.const (.int .i64 1)]) ⟨rfl,rfl,trivial⟩) ⟨(Cv.2 ⟨rfl,by constructor <;> omega⟩),(Cv.2 ⟨rfl,by constructor <;> omega⟩),trivial⟩ rfl (by decide) fun k28 cs28 R28=>?_)
 have G28:Grow ρ24 3 (.slice (some ⟨k28,0,none⟩) 2 2) ([0,1]:List Int) [(k28,oC cs28.toArray 3)]:=Bs R28 rfl (by decide)
 refine Ca G28 fun ρ29 l29 r29=>?_
 replace G4:=Bmk l29 G4
 replace G5:=Bmk l29 G5
 replace G27:=Bmk l29 G27
 have r30:Val ρ29 (.agg #[(iV (120)),(.slice (some ⟨k28,0,none⟩) 2 2)]) (⟨120,([0,1]:List Int)⟩:Sale):=Sale.shut (x:=(⟨120,([0,1]:List Int)⟩:Sale)) (show I64 (120) from by constructor <;> omega) r29
 refine l_v (Dn (ns:=[1,1]) (vs:=[(0,(iV (120))),(1,(.slice (some ⟨k28,0,none⟩) 2 2))]) (zc:=Akd) (cs:=[(iV (120)),(.slice (some ⟨k28,0,none⟩) 2 2)]) Bin Agb rfl ⟨⟨_,Ab Bhx,rfl⟩,⟨_,Ab Bjo,rfl⟩,trivial⟩ (EvB.map ⟨⟨rfl,rfl⟩,⟨rfl,rfl⟩,trivial⟩) ((Be (cs:=[(iV (120))]) rfl rfl (Nat.le_of_ble_eq_true rfl)).trans ((Be (cs:=[(.slice (some ⟨k28,0,none⟩) 2 2)]) (Val.cells_l r29) rfl (Nat.le_of_ble_eq_true rfl)).trans rfl))) (Arv (Bi (α:=Int) (xs:=[1]) (vs:=[(iV (1))]) Bhy ty3 zr3 rfl (by decide) (Dk (os:=[.const (.int .i64 1)]) ⟨rfl,trivial⟩) ⟨(Cv.2 ⟨rfl,by constructor <;> omega⟩),trivial⟩ rfl (by decide) fun k31 cs31 R31=>?_))
 have G31:Grow ρ29 3 (.slice (some ⟨k31,0,none⟩) 1 1) ([1]:List Int) [(k31,oC cs31.toArray 3)]:=Bs R31 rfl (by decide)
 refine Ca G31 fun ρ32 l32 r32=>?_
 replace G4:=Bmk l32 G4
 replace G5:=Bmk l32 G5
 replace G27:=Bmk l32 G27
 replace r30:=Bmo l32 r30
 have r33:Val ρ32 (.agg #[(iV (60)),(.slice (some ⟨k31,0,none⟩) 1 1)]) (⟨60,([1]:List Int)⟩:Sale):=Sale.shut (x:=(⟨60,([1]:List Int)⟩:Sale)) (show I64 (60) from by constructor <;> omega) r32
 refine l_v (Dn (ns:=[1,1]) (vs:=[(0,(iV (60))),(1,(.slice (some ⟨k31,0,none⟩) 1 1))]) (zc:=Akd) (cs:=[(iV (60)),(.slice (some ⟨k31,0,none⟩) 1 1)]) Bin Agb rfl ⟨⟨_,Ab Bhx,rfl⟩,⟨_,Ab Bjo,rfl⟩,trivial⟩ (EvB.map ⟨⟨rfl,rfl⟩,⟨rfl,rfl⟩,trivial⟩) ((Be (cs:=[(iV (60))]) rfl rfl (Nat.le_of_ble_eq_true rfl)).trans ((Be (cs:=[(.slice (some ⟨k31,0,none⟩) 1 1)]) (Val.cells_l r32) rfl (Nat.le_of_ble_eq_true rfl)).trans rfl))) (Arv (Bi (α:=Int) (xs:=[2]) (vs:=[(iV (2))]) Bhy ty3 zr3 rfl (by decide) (Dk (os:=[.const (.int .i64 2)]) ⟨rfl,trivial⟩) ⟨(Cv.2 ⟨rfl,by constructor <;> omega⟩),trivial⟩ rfl (by decide) fun k34 cs34 R34=>?_))
 have G34:Grow ρ32 3 (.slice (some ⟨k34,0,none⟩) 1 1) ([2]:List Int) [(k34,oC cs34.toArray 3)]:=Bs R34 rfl (by decide)
 refine Ca G34 fun ρ35 l35 r35=>?_
 replace G4:=Bmk l35 G4
 replace G5:=Bmk l35 G5
 replace G27:=Bmk l35 G27
 replace r30:=Bmo l35 r30
 replace r33:=Bmo l35 r33
 have r36:Val ρ35 (.agg #[(iV (50)),(.slice (some ⟨k34,0,none⟩) 1 1)]) (⟨50,([2]:List Int)⟩:Sale):=Sale.shut (x:=(⟨50,([2]:List Int)⟩:Sale)) (show I64 (50) from by constructor <;> omega) r35
 refine l_v (Dn (ns:=[1,1]) (vs:=[(0,(iV (50))),(1,(.slice (some ⟨k34,0,none⟩) 1 1))]) (zc:=Akd) (cs:=[(iV (50)),(.slice (some ⟨k34,0,none⟩) 1 1)]) Bin Agb rfl ⟨⟨_,Ab Bhx,rfl⟩,⟨_,Ab Bjo,rfl⟩,trivial⟩ (EvB.map ⟨⟨rfl,rfl⟩,⟨rfl,rfl⟩,trivial⟩) ((Be (cs:=[(iV (50))]) rfl rfl (Nat.le_of_ble_eq_true rfl)).trans ((Be (cs:=[(.slice (some ⟨k34,0,none⟩) 1 1)]) (Val.cells_l r35) rfl (Nat.le_of_ble_eq_true rfl)).trans rfl))) (Arv (Bi (α:=Sale) (xs:=[(⟨120,([0,1]:List Int)⟩:Sale),(⟨60,([1]:List Int)⟩:Sale),(⟨50,([2]:List Int)⟩:Sale)]) (vs:=[(.agg #[(iV (120)),(.slice (some ⟨k28,0,none⟩) 2 2)]),(.agg #[(iV (60)),(.slice (some ⟨k31,0,none⟩) 1 1)]),(.agg #[(iV (50)),(.slice (some ⟨k34,0,none⟩) 1 1)])]) Bif Up Agb rfl (by decide) (Dk (os:=[.tmp 20,.tmp 22,.tmp 24]) ⟨rfl,rfl,rfl,trivial⟩) ⟨r30,r33,r36,trivial⟩ rfl (by decide) fun k37 cs37 R37=>?_))
 have G37:Grow ρ35 51 (.slice (some ⟨k37,0,none⟩) 3 3) ([(⟨120,([0,1]:List Int)⟩:Sale),(⟨60,([1]:List Int)⟩:Sale),(⟨50,([2]:List Int)⟩:Sale)]:List Sale) [(k37,oC cs37.toArray 51)]:=Bs R37 rfl (by decide)
 refine Bj (Bmj ((p_c ((p_c Arz).trans Arz)).trans Arz)) (Ca G4 fun ρ38 l38 r38=>?_)
 replace G5:=Bmk l38 G5
 replace G27:=Bmk l38 G27
 replace G37:=Bmk l38 G37
 refine Bj (Bmj ((p_c Arz).trans Arz)) (Ca G5 fun ρ39 l39 r39=>?_)
 replace G27:=Bmk l39 G27
 replace G37:=Bmk l39 G37
 replace r38:=Bmo l39 r38
 refine Bj (Bmj Arz) (Ca G27 fun ρ40 l40 r40=>?_)
 replace G37:=Bmk l40 G37
 replace r38:=Bmo l40 r38
 replace r39:=Bmo l40 r39
 refine Ca G37 fun ρ41 l41 r41=>?_
 replace r38:=Bmo l41 r38
 replace r39:=Bmo l41 r39
 replace r40:=Bmo l41 r40
 have r42:Val ρ41 (.agg #[(.slice (some ⟨k4,0,none⟩) 3 3),(.slice (some ⟨k5,0,none⟩) 2 2),(.slice (some ⟨k27,0,none⟩) 3 3),(.slice (some ⟨k37,0,none⟩) 3 3)]) (⟨([(ByteArray.mk #[97,110,97]),(ByteArray.mk #[114,117,105]),(ByteArray.mk #[115,111,108])]:List ByteArray),([(ByteArray.mk #[105,114,111,110]),(ByteArray.mk #[115,97,108,116])]:List ByteArray),([(⟨(ByteArray.mk #[104,105,108,108]),0,⟨90,100⟩,([(⟨10,20⟩:Span),(⟨5,9⟩:Span)]:List Span)⟩:FField),(⟨(ByteArray.mk #[108,111,119]),1,⟨40,50⟩,([(⟨30,40⟩:Span),(⟨5,6⟩:Span)]:List Span)⟩:FField),(⟨(ByteArray.mk #[101,97,115,116]),2,⟨60,70⟩,([(⟨10,15⟩:Span),(⟨20,30⟩:Span)]:List Span)⟩:FField)]:List FField),([(⟨120,([0,1]:List Int)⟩:Sale),(⟨60,([1]:List Int)⟩:Sale),(⟨50,([2]:List Int)⟩:Sale)]:List Sale)⟩:Market):=Market.shut (x:=(⟨([(ByteArray.mk #[97,110,97]),(ByteArray.mk #[114,117,105]),(ByteArray.mk #[115,111,108])]:List ByteArray),([(ByteArray.mk #[105,114,111,110]),(ByteArray.mk #[115,97,108,116])]:List ByteArray),([(⟨(ByteArray.mk #[104,105,108,108]),0,⟨90,100⟩,([(⟨10,20⟩:Span),(⟨5,9⟩:Span)]:List Span)⟩:FField),(⟨(ByteArray.mk #[108,111,119]),1,⟨40,50⟩,([(⟨30,40⟩:Span),(⟨5,6⟩:Span)]:List Span)⟩:FField),(⟨(ByteArray.mk #[101,97,115,116]),2,⟨60,70⟩,([(⟨10,15⟩:Span),(⟨20,30⟩:Span)]:List Span)⟩:FField)]:List FField),([(⟨120,([0,1]:List Int)⟩:Sale),(⟨60,([1]:List Int)⟩:Sale),(⟨50,([2]:List Int)⟩:Sale)]:List Sale)⟩:Market)) r38 r39 r40 r41
 refine l_v (Dn (ns:=[1,1,1,1]) (vs:=[(0,(.slice (some ⟨k4,0,none⟩) 3 3)),(1,(.slice (some ⟨k5,0,none⟩) 2 2)),(2,(.slice (some ⟨k27,0,none⟩) 3 3)),(3,(.slice (some ⟨k37,0,none⟩) 3 3))]) (zc:=Amj) (cs:=[(.slice (some ⟨k4,0,none⟩) 3 3),(.slice (some ⟨k5,0,none⟩) 2 2),(.slice (some ⟨k27,0,none⟩) 3 3),(.slice (some ⟨k37,0,none⟩) 3 3)]) Bia Apg rfl ⟨⟨_,Ab Bkp,rfl⟩,⟨_,Ab Bkp,rfl⟩,⟨_,Ab Bjt,rfl⟩,⟨_,Ab Bje,rfl⟩,trivial⟩ (EvB.map ⟨⟨rfl,rfl⟩,⟨rfl,rfl⟩,⟨rfl,rfl⟩,⟨rfl,rfl⟩,trivial⟩) ((Be (cs:=[(.slice (some ⟨k4,0,none⟩) 3 3)]) (Val.cells_l r38) rfl (Nat.le_of_ble_eq_true rfl)).trans ((Be (cs:=[(.slice (some ⟨k5,0,none⟩) 2 2)]) (Val.cells_l r39) rfl (Nat.le_of_ble_eq_true rfl)).trans ((Be (cs:=[(.slice (some ⟨k27,0,none⟩) 3 3)]) (Val.cells_l r40) rfl (Nat.le_of_ble_eq_true rfl)).trans ((Be (cs:=[(.slice (some ⟨k37,0,none⟩) 3 3)]) (Val.cells_l r41) rfl (Nat.le_of_ble_eq_true rfl)).trans rfl))))) (Cx rfl (Li (i:=0) (vs:=[(.slice (some ⟨k4,0,none⟩) 3 3),(.slice (some ⟨k5,0,none⟩) 2 2),(.slice (some ⟨k27,0,none⟩) 3 3),(.slice (some ⟨k37,0,none⟩) 3 3)]) (c':=[(.slice (some ⟨k4,0,none⟩) 3 3),(.slice (some ⟨k5,0,none⟩) 2 2),(.slice (some ⟨k27,0,none⟩) 3 3),(.slice (some ⟨k37,0,none⟩) 3 3)]) ⟨_,Ab Bjn,rfl⟩ rfl rfl rfl rfl (Zh ⟨(Val.single_l r38),(Val.single_l r39),(Val.single_l r40),(Val.single_l r41),trivial⟩) rfl (Nat.le_of_ble_eq_true rfl) rfl ?_))
 refine l_k k3 (Aq ?_)
 have r43:Val ρ41 (.agg #[(.slice (some ⟨k4,0,none⟩) 3 3),(.slice (some ⟨k5,0,none⟩) 2 2),(.slice (some ⟨k27,0,none⟩) 3 3),(.slice (some ⟨k37,0,none⟩) 3 3)]) (⟨([(ByteArray.mk #[97,110,97]),(ByteArray.mk #[114,117,105]),(ByteArray.mk #[115,111,108])]:List ByteArray),([(ByteArray.mk #[105,114,111,110]),(ByteArray.mk #[115,97,108,116])]:List ByteArray),([(⟨(ByteArray.mk #[104,105,108,108]),0,⟨90,100⟩,([(⟨10,20⟩:Span),(⟨5,9⟩:Span)]:List Span)⟩:FField),(⟨(ByteArray.mk #[108,111,119]),1,⟨40,50⟩,([(⟨30,40⟩:Span),(⟨5,6⟩:Span)]:List Span)⟩:FField),(⟨(ByteArray.mk #[101,97,115,116]),2,⟨60,70⟩,([(⟨10,15⟩:Span),(⟨20,30⟩:Span)]:List Span)⟩:FField)]:List FField),([(⟨120,([0,1]:List Int)⟩:Sale),(⟨60,([1]:List Int)⟩:Sale),(⟨50,([2]:List Int)⟩:Sale)]:List Sale)⟩:Market):=Market.shut (x:=(⟨([(ByteArray.mk #[97,110,97]),(ByteArray.mk #[114,117,105]),(ByteArray.mk #[115,111,108])]:List ByteArray),([(ByteArray.mk #[105,114,111,110]),(ByteArray.mk #[115,97,108,116])]:List ByteArray),([(⟨(ByteArray.mk #[104,105,108,108]),0,⟨90,100⟩,([(⟨10,20⟩:Span),(⟨5,9⟩:Span)]:List Span)⟩:FField),(⟨(ByteArray.mk #[108,111,119]),1,⟨40,50⟩,([(⟨30,40⟩:Span),(⟨5,6⟩:Span)]:List Span)⟩:FField),(⟨(ByteArray.mk #[101,97,115,116]),2,⟨60,70⟩,([(⟨10,15⟩:Span),(⟨20,30⟩:Span)]:List Span)⟩:FField)]:List FField),([(⟨120,([0,1]:List Int)⟩:Sale),(⟨60,([1]:List Int)⟩:Sale),(⟨50,([2]:List Int)⟩:Sale)]:List Sale)⟩:Market)) r38 r39 r40 r41
 refine hret _ _ _ _ _ [(.agg #[(.slice (some ⟨k4,0,none⟩) 3 3),(.slice (some ⟨k5,0,none⟩) 2 2),(.slice (some ⟨k27,0,none⟩) 3 3),(.slice (some ⟨k37,0,none⟩) 3 3)])] ⟨(Qh ⟨_,Bia,rfl⟩ ⟨_,Ab Bjn,rfl⟩ rfl (i:=0) rfl rfl),trivial⟩ Bmh (⟨(Bmm (Bmm (Bmm (Bmm (Bmm (Bmm (Bmm (Bmm (Bmm (Bmm (Bmm (Bmm (Bmm (Bmm (Bmm (Bmm (Bmm (Bmm l6 l7) l8) l10) l13) l14) l15) l17) l20) l21) l22) l24) l29) l32) l35) l38) l39) l40) l41),rfl,Abz (v:=(.agg #[(.slice (some ⟨k4,0,none⟩) 3 3),(.slice (some ⟨k5,0,none⟩) 2 2),(.slice (some ⟨k27,0,none⟩) 3 3),(.slice (some ⟨k37,0,none⟩) 3 3)])) rfl (Val.cast ?_ r43)⟩)
 ·rfl
end
section
open Go
def trB (tr:List Bool) (s:Nat):Bool:=tr.getD s false
theorem Iq {tr:List Bool} {s k:Nat} {b:Bool} (hs:s < tr.length):trB (tr.set s b) k = if k = s then b else trB tr k:=by
 unfold trB
 rw [List.getD_eq_getElem?_getD,List.getD_eq_getElem?_getD,List.getElem?_set]
 by_cases h:s = k
 ·subst h; simp [hs]
 ·simp [h,Ne.symm h]
theorem Alz {tr:List Bool} {s:Nat} (hs:s < tr.length):tr[s]? = some (trB tr s):=by
 unfold trB; rw [List.getD_eq_getElem?_getD,List.getElem?_eq_getElem hs]; rfl
theorem Pj {xs:List Int} {i:Nat} (h:i < xs.length):xs[i]? = some (xg xs i):=by
 unfold xg; rw [List.getD_eq_getElem?_getD,List.getElem?_eq_getElem h]; rfl
theorem Alw {n k:Nat} {f:Nat→Int} (h:∀ i,i < n→0 ≤ f i) (hk:k < n):f k ≤ Df n f:=by
 induction n with
 | zero=>omega
 | succ n ih =>
  simp only [Df]
  by_cases e:k = n
  ·subst e
   have:=Sa (n:=k) (f:=f) fun i hi=>h i (by omega)
   omega
  ·have:=ih (fun i hi=>h i (by omega)) (by omega)
   have:=h n (by omega)
   omega
theorem FlowOk.pt_le {sl:Nat→Nat→Bool} {cap:Nat→Int} {xs:List Int} (ok:FlowOk sl cap xs) {s h:Nat} (hs:s < 8) (hh:h < 5):pt xs s h ≤ cap h:=by
 have h1:=ok.all h hh
 have h2:=ok.left h hh
 have h3:=Alw (n:=8) (f:=fun s=>pt xs s h) (fun i hi=>ok.pos i h hi hh) hs
 omega
theorem FlowOk.lf_le {sl:Nat→Nat→Bool} {cap:Nat→Int} {xs:List Int} (ok:FlowOk sl cap xs) {h:Nat} (hh:h < 5):lf xs h ≤ cap h:=by
 have h1:=ok.all h hh
 have h3:=Sa (n:=8) (f:=fun s=>pt xs s h) (fun i hi=>ok.pos i h hi hh)
 omega
/-- What one call of move does. -/
structure MoveP (sl:Nat→Nat→Bool) (cap:Nat→Int) (sale:Nat) (grams:Int) (xs:List Int) (tr:List Bool) (n:Int) (xs':List Int) (tr':List Bool):Prop where
 len:tr'.length = 8
 mono:∀ s,trB tr s = true→trB tr' s = true
 own:trB tr' sale = true
 ok:FlowOk sl cap xs'
 res:(n = 0∧xs' = xs∧Clo sl xs (trB tr) (trB tr'))∨(0 < n∧n ≤ grams∧Fv xs' sale = Fv xs sale + n∧(∀ s,s < 8→s ≠ sale→Fv xs' s = Fv xs s)∧(∀ s,s < 8→trB tr s = true→∀ h,h < 5→pt xs' s h = pt xs s h)∧∀ h,h < 5→pt xs sale h ≤ pt xs' sale h)
section
variable {sl:Nat→Nat→Bool} {cap:Nat→Int} {sale o h:Nat} {grams n:Int} {xs xs':List Int} {tr trk tr':List Bool}
theorem MoveP.n0 (h:MoveP sl cap sale grams xs tr n xs' tr'):0 ≤ n:=by rcases h.res with h | h <;> omega
theorem MoveP.le (h:MoveP sl cap sale grams xs tr n xs' tr'):n = 0∨n ≤ grams:=by rcases h.res with h | h <;> omega
theorem MoveP.zero (h:MoveP sl cap sale grams xs tr n xs' tr') (hn:¬ 0 < n):n = 0∧xs' = xs∧Clo sl xs (trB tr) (trB tr'):=h.res.resolve_right fun h'=>hn h'.1
theorem Afd (ok:FlowOk sl cap xs) (hl:tr.length = 8) (hs:sale < 8) (hh:h < 5) (hsl:sl sale h = true) (ht:trB tr sale = false) (hn:0 < n) (hg:n ≤ grams) (hx:n ≤ xg xs (40 + h)):MoveP sl cap sale grams xs tr n (give xs sale h n) (tr.set sale true):=by
 have hx':n ≤ lf xs h:=hx
 refine ⟨by simpa using hl,fun s h1=>?_,by rw [Iq (by omega),if_pos rfl],ok.give hs hh (by omega) hx' hsl,.inr ⟨hn,hg,?_,fun s hs' hne=>?_,fun s hs' h1 k hk=>?_,fun k hk=>?_⟩⟩
 ·rw [Iq (by omega)]; split
  ·rfl
  ·exact h1
 ·rw [Wd ok.len hs hh hs,if_pos rfl]
 ·rw [Wd ok.len hs hh hs',if_neg hne]
 ·rw [Si ok.len hs hh hs' hk,if_neg]
  rintro ⟨rfl,_⟩; rw [ht] at h1; cases h1
 ·rw [Si ok.len hs hh hs hk]
  split
  ·rename_i e; rw [e.2]; omega
  ·exact Int.le_refl _
theorem Abm (hlen:tr.length = 8) (hs:sale < 8) (ho:o < 8) (hh:h < 5) (hsl:sl sale h = true) (ht:trB tr sale = false) (hm:∀ s,trB (tr.set sale true) s = true→trB trk s = true) (hto:trB trk o = false) (hp0:xg xs (o * 5 + h) ≠ 0) {g:Int} (hg1:g ≤ grams) (hg2:g ≤ xg xs (o * 5 + h))
  (H:MoveP sl cap o g xs trk n xs' tr') (hn:0 < n):MoveP sl cap sale grams xs tr n (shift xs' o sale h n) tr':=by
 have hts:trB trk sale = true:=hm sale (by rw [Iq (by omega),if_pos rfl])
 have hos:o ≠ sale:=by rintro rfl; rw [hts] at hto; cases hto
 obtain ⟨_,h2,h3,h4,h5,h6⟩:=H.res.resolve_left fun h'=>by omega
 have ok':=H.ok
 have h7:pt xs o h ≤ pt xs' o h:=h6 h hh
 have hg2':g ≤ pt xs o h:=hg2
 have hmt:∀ s,trB tr s = true→trB trk s = true:=fun s h1=>hm s (by
  rw [Iq (by omega)]; split
  ·rfl
  ·exact h1)
 have hrow:∀ k,k < 5→pt xs' sale k = pt xs sale k:=fun k hk=>h5 sale hs hts k hk
 refine ⟨H.len,fun s h1=>H.mono s (hmt s h1),H.mono sale hts,ok'.shift hos ho hs hh (by omega) (by omega) hsl (by omega),.inr ⟨hn,by omega,?_,fun s hs' hne=>?_,fun s hs' h1 k hk=>?_,fun k hk=>?_⟩⟩
 ·rw [Uk ok'.len hos ho hs hh hs,if_pos rfl,h4 sale hs (Ne.symm hos)]
 ·rw [Uk ok'.len hos ho hs hh hs',if_neg hne]
  split
  ·rename_i e; subst e; omega
  ·rename_i e; exact h4 s hs' e
 ·have h8:s ≠ sale:=by rintro rfl; rw [ht] at h1; cases h1
  have h9:s ≠ o:=by rintro rfl; rw [hmt _ h1] at hto; cases hto
  rw [Ql ok'.len hos ho hs hh hs' hk,if_neg h8,if_neg h9,ite_self]
  exact h5 s hs' (hmt s h1) k hk
 ·rw [Ql ok'.len hos ho hs hh hs hk,if_pos rfl]
  split
  ·rename_i e; subst e; rw [hrow k hk]; omega
  ·rw [hrow k hk]; exact Int.le_refl _
theorem Afe (ok:FlowOk sl cap xs) (hl:tr.length = 8) (hk:trk.length = 8) (hs:sale < 8) (hm:∀ s,trB (tr.set sale true) s = true→trB trk s = true) (hc:Clo sl xs (trB (tr.set sale true)) (trB trk))
  (hz:∀ h,h < 5→sl sale h = true→xg xs (40 + h) = 0) (ht:∀ h,h < 5→sl sale h = true→∀ o,o < 8→pt xs o h ≠ 0→trB trk o = true):MoveP sl cap sale grams xs tr 0 xs trk:=by
 refine ⟨hk,fun s h1=>hm s ?_,hm sale (by rw [Iq (by omega),if_pos rfl]),ok,.inl ⟨rfl,rfl,fun s hs' h1 h2 k hk' hsl=>?_⟩⟩
 ·rw [Iq (by omega)]; split
  ·rfl
  ·exact h1
 ·by_cases e:s = sale
  ·subst e; exact ⟨hz k hk' hsl,ht k hk' hsl⟩
  ·exact hc s hs' (by rw [Iq (by omega),if_neg e]; exact h1) h2 k hk' hsl
/-- How many sales have not been tried. -/
def Adb (tr:List Bool):Nat:=((List.range 8).filter fun s=>!trB tr s).length
theorem Ahu {tr tr':List Bool} (hm:∀ s,trB tr s = true→trB tr' s = true) (hs:sale < 8) (h0:trB tr sale = false) (h1:trB tr' sale = true):Adb tr' < Adb tr:=by
 unfold Adb
 have key:∀ (l:List Nat),(l.filter fun s=>!trB tr' s).length ≤ (l.filter fun s=>!trB tr s).length∧(sale ∈ l→(l.filter fun s=>!trB tr' s).length < (l.filter fun s=>!trB tr s).length):=by
  intro l
  induction l with
  | nil=>simp
  | cons a l ih =>
   obtain ⟨ih1,ih2⟩:=ih
   have h2:((a :: l).filter fun s=>!trB tr s) = (if trB tr a then [] else [a]) ++ l.filter fun s=>!trB tr s:=by
    rw [List.filter_cons]; cases trB tr a <;> simp
   have h3:((a :: l).filter fun s=>!trB tr' s) = (if trB tr' a then [] else [a]) ++ l.filter fun s=>!trB tr' s:=by
    rw [List.filter_cons]; cases trB tr' a <;> simp
   rw [h2,h3,List.length_append,List.length_append]
   have h4:(if trB tr' a then ([]:List Nat) else [a]).length ≤ (if trB tr a then ([]:List Nat) else [a]).length:=by
    cases ha:trB tr a with
    | true=>rw [hm a ha]; simp
    | false=>cases trB tr' a <;> simp
   refine ⟨by omega,fun hmem=>?_⟩
   rcases List.mem_cons.1 hmem with rfl | hmem
   ·rw [h0,h1]; simp; omega
   ·have:=ih2 hmem; omega
 exact (key (List.range 8)).2 (List.mem_range.2 hs)
end
theorem Lu {sl:Nat→Nat→Bool} {cap:Nat→Int} {xs:List Int} (ok:FlowOk sl cap xs) (hcap:∀ h,h < 5→cap h ≤ 8000000) {i:Nat} (hi:i < 45):0 ≤ xg xs i∧xg xs i ≤ 8000000:=by
 by_cases h:i < 40
 ·have e:i = i / 5 * 5 + i % 5:=by omega
  have h1:=ok.pos (i / 5) (i % 5) (by omega) (by omega)
  have h2:=ok.pt_le (s:=i / 5) (h:=i % 5) (by omega) (by omega)
  have h3:=hcap (i % 5) (by omega)
  unfold pt at h1 h2
  rw [← e] at h1 h2
  omega
 ·have e:i = 40 + (i - 40):=by omega
  have h1:=ok.left (i - 40) (by omega)
  have h2:=ok.lf_le (h:=i - 40) (by omega)
  have h3:=hcap (i - 40) (by omega)
  unfold lf at h1 h2
  rw [← e] at h1 h2
  omega
theorem Aqe {xs:List Int} {i k:Nat} {v:Int} (h:k ≠ i):xg (xs.set i v) k = xg xs k:=by
 unfold xg
 rw [List.getD_eq_getElem?_getD,List.getD_eq_getElem?_getD,List.getElem?_set_ne (Ne.symm h)]
theorem Vs {sl:Nat→Nat→Bool} {cap:Nat→Int} {xs:List Int} (ok:FlowOk sl cap xs) (hcap:∀ h,h < 5→cap h ≤ 8000000) {i k:Nat} {v:Int} (hk:k < 45) (h:k ≠ i):0 ≤ xg (xs.set i v) k∧xg (xs.set i v) k ≤ 8000000:=by
 rw [Aqe h]; exact Lu ok hcap hk
theorem Zf {m:Market} {s:Sale} {i k x:Nat} (hs:m.sales[i]? = some s) (hx:s.sellers[k]? = some (x:Int)):Ds m i x = true:=by
 unfold Ds Gn
 rw [hs]
 exact List.any_eq_true.2 ⟨_,List.mem_of_getElem? hx,by simp⟩
theorem Wb {m:Market} {s:Sale} {i x:Nat} (hs:m.sales[i]? = some s) (h:Ds m i x = true):∃ k,k < s.sellers.length∧s.sellers[k]? = some (x:Int):=by
 unfold Ds Gn at h
 rw [hs] at h
 obtain ⟨y,hy,he⟩:=List.any_eq_true.1 h
 have he:y = (x:Int):=by simpa using he
 subst he
 obtain ⟨k,hk⟩:=List.getElem?_of_mem hy
 exact ⟨k,(List.getElem?_eq_some_iff.1 hk).1,hk⟩
theorem Aiw {m:Market} {i h:Nat} (h1:Ds m i h = true):i < m.sales.length:=by
 rcases Nat.lt_or_ge i m.sales.length with hlt | hge
 ·exact hlt
 ·unfold Ds at h1; rw [List.getElem?_eq_none hge] at h1; cases h1
/-- Seller number j has nothing left. -/
def Amn (xs:List Int) (l:List Int) (j:Nat):Prop:=∀ x:Nat,l[j]? = some (x:Int)→xg xs (40 + x) = 0
/-- Whatever house x sells of sale o,that sale has been tried. -/
def TriO (xs:List Int) (tr:List Bool) (x o:Nat):Prop:=xg xs (o * 5 + x) ≠ 0→trB tr o = true
def TriZ (xs:List Int) (tr:List Bool) (l:List Int) (j:Nat):Prop:=∀ x:Nat,l[j]? = some (x:Int)→∀ o,o < 8→TriO xs tr x o
theorem TriZ.mono {xs:List Int} {tr tr':List Bool} {l:List Int} {k:Nat} (hm:∀ s,trB tr s = true→trB tr' s = true) (h:∀ j,j < k→TriZ xs tr l j):∀ j,j < k→TriZ xs tr' l j:=fun j hj x hx o ho h0=>hm o (h j hj x hx o ho h0)
theorem TriO.mono {xs:List Int} {tr tr':List Bool} {x k:Nat} (hm:∀ s,trB tr s = true→trB tr' s = true) (h:∀ o,o < k→TriO xs tr x o):∀ o,o < k→TriO xs tr' x o:=fun o ho h0=>hm o (h o ho h0)
theorem TriO.all {m:Market} {cap:Nat→Int} {xs:List Int} {tr:List Bool} {l:List Int} {x k j:Nat} (ok:FlowOk (Ds m) cap xs) (hx5:x < 5) (hk:m.sales.length ≤ k) (hx:l[j]? = some (x:Int)) (h:∀ o,o < k→TriO xs tr x o):TriZ xs tr l j:=fun y hy o ho h0=>by
 rw [hx] at hy
 obtain rfl:x = y:=by have:=Option.some.inj hy; omega
 have h1:=ok.sells o x ho hx5 h0
 exact h o (Nat.lt_of_lt_of_le (Aiw h1) hk) h0
theorem Aie {m:Market} {s:Sale} {xs:List Int} {i k:Nat} (hs:m.sales[i]? = some s) (hk:s.sellers.length ≤ k) (h:∀ j,j < k→Amn xs s.sellers j):∀ h,h < 5→Ds m i h = true→xg xs (40 + h) = 0:=fun x _ hx=>by
 obtain ⟨j,h1,h2⟩:=Wb hs hx
 exact h j (by omega) x h2
theorem Ama {m:Market} {s:Sale} {xs:List Int} {tr:List Bool} {i k:Nat} (hs:m.sales[i]? = some s) (hk:s.sellers.length ≤ k) (h:∀ j,j < k→TriZ xs tr s.sellers j):∀ h,h < 5→Ds m i h = true→∀ o,o < 8→pt xs o h ≠ 0→trB tr o = true:=fun x _ hx o ho h0=>by
 obtain ⟨j,h1,h2⟩:=Wb hs hx
 exact h j (by omega) x h2 o ho h0
end
section
set_option maxHeartbeats 1000000
open Go
set_option maxHeartbeats 2000000 in
theorem Anb {mn:Bool} {X:Frame→List Frame→Ro→Own→Cy→Prop} {ρ:Ro} {σ:Own} {m:Market} {cap:Nat→Int} {sale rx rt:Nat} {g:Int} {xs:List Int} {tr:List Bool} {vh vk vf vs g0 g1 g2 g3 g4:Value} (rs:Val ρ vs m.sales) (ok:MarketOk m) (hcap:∀ h,h < 5→cap h ≤ 8000000) (hF:FlowOk (Ds m) cap xs) (hs:sale < m.sales.length) (hg:0 < g) (hg2:g ≤ 8000000) (htl:tr.length = 8) (ht:trB tr sale = false):CallsH (CX mn X) 91 #[(.pointer (some ⟨rx,0,none⟩)),(iV ((sale:Int))),(iV (g)),(.pointer (some ⟨rt,0,none⟩))] ρ (((rt,oC (tr.map Value.bool).toArray 191) :: ((rx,oC ([vh,vk,vf,vs,g0,g1,g2,g3,g4] ++ xs.map (Value.int .i64)).toArray 188) :: σ))) (fun w ρ' σ'=>ρ' = ρ∧∃ n xs' tr',w = .int .i64 n∧σ' = (rt,.obj (.cells (tr'.map Value.bool).toArray 191 (0,0))) :: (rx,.obj (.cells ([vh,vk,vf,vs,g0,g1,g2,g3,g4] ++ xs'.map (Value.int .i64)).toArray 188 (0,0))) :: σ∧MoveP (Ds m) cap sale g xs tr n xs' tr'):=by
 have hn8:=ok.nsales
 have hh5:=Hn ok
 obtain ⟨N,hN⟩:∃ N,N = Adb tr:=⟨_,rfl⟩
 induction N using Nat.strongRecOn generalizing sale g xs tr
 rename_i N ih
 refine Bh (n:=160) (args:=[(.pointer (some ⟨rx,0,none⟩)),(iV ((sale:Int))),(iV (g)),(.pointer (some ⟨rt,0,none⟩))]) [8] Tryd.func91 rfl rfl rfl rfl fun Q hret hnor=>w_q rfl rfl fun K1 k1=>Lo (iV (0)) (Arx rfl rfl k1 fun K2 k2=>Asf (.pointer (some ⟨rt,0,none⟩)) (Asf (iV ((sale:Int))) (l_v (Ck rfl) (l_v (Cq (k':=1) sale Blr ⟨_,Ab Biw,rfl⟩ rfl (q:=(sale:Int)) rfl rfl (by omega) (off':=sale) (by omega)) (Cx rfl (Zx (j:=0) (f:=Value.bool) (i:=sale) (bv:=true) ⟨_,Ab Biw,rfl⟩ rfl rfl rfl rfl (by rw [htl]; omega) ?_))))))
 refine Ary rfl rfl k2 fun K3 K4 k3 k4=>Asf (.pointer (some ⟨rx,0,none⟩)) (l_v (Ck rfl) (l_v (Cb (off':=0) Biv rfl rfl ⟨_,Ab Bkn,rfl⟩ (by decide) rfl rfl) (l_v (Cb (off':=0) Bjk rfl rfl ⟨_,Ab Bjn,rfl⟩ (by decide) rfl rfl) (l_v (Cb (off':=3) Bia rfl rfl ⟨_,Ab Bje,rfl⟩ (by decide) rfl rfl) (Arv (Dt (i:=1) (v:=vs) ⟨_,Bif,rfl⟩ rfl rfl rfl ?_))))))
 refine Asf (iV ((sale:Int))) ?_
 obtain ⟨a6,ha6⟩:=Ed (xs:=m.sales) (i:=sale) (by omega)
 have gs_a6:=ok.sale _ _ ha6
 refine Arw (Ch sale Bif Up rfl rs (q:=(sale:Int)) rfl rfl ha6) fun v5 r5=>Arw (Ay Sale.f_sellers Bin rfl rfl Vh (by decide) rfl r5) fun v7 r7=>Arw (Ax Vh rfl r7) fun v8 r8=>?_
 have g9:=Bmn r8
 refine l_v (Ci (el:=3) Bhy rfl r8) (Asf (iV (0)) (l_k k4 (Ao (Cc (fun mm ee dd ρ' σ'=>∃ (i:Nat),(a6.sellers.length - i) = mm∧[] = dd∧ρ = ρ'∧((rt,oC (((tr.set sale true)).map Value.bool).toArray 191) :: ((rx,oC ([vh,vk,vf,vs,g0,g1,g2,g3,g4] ++ xs.map (Value.int .i64)).toArray 188) :: σ)) = σ'∧ee 0 = (.pointer (some ⟨rx,0,none⟩))∧ee 1 = (iV ((sale:Int)))∧ee 2 = (iV (g))∧ee 3 = (.pointer (some ⟨rt,0,none⟩))∧ee 29 = v8∧ee 30 = (iV (((a6.sellers.length:Nat):Int)))∧ee 31 = (iV ((i:Int)))∧(i ≤ a6.sellers.length)∧(∀ j,j < i→Amn xs a6.sellers j)∧True) (m:=_) ⟨0,rfl,rfl,rfl,rfl,rfl,rfl,rfl,rfl,rfl,rfl,rfl,(Nat.zero_le _),(fun j h=>absurd h (Nat.not_lt_zero _)),trivial⟩ ?_))))
 rintro m10 e10 _ _ _ ⟨i,rfl,rfl,rfl,rfl,h10_0,h10_1,h10_2,h10_3,h10_29,h10_30,h10_31,p10_0,p10_1,_⟩
 refine w_q rfl rfl fun K11 k11=>l_v (Da h10_31 h10_30) (Asa k11 fun K12 k12=>Asg (t:=decide ((i:Int) < ((a6.sellers.length:Nat):Int))) rfl (fun b13=>?_) (fun b13=>?_))
 ·have q13:=of_decide_eq_true b13
  refine Al (k12 _ _ _ _ ?_)
  refine Ai fun K14 k14=>Ao (w_q rfl rfl fun K15 k15=>?_)
  obtain ⟨a17,ha17⟩:=Ed (xs:=a6.sellers) (i:=i) (by omega)
  have gt_a17:=gs_a6.2.2.1 _ _ ha17
  obtain ⟨x18,hx18⟩:∃ x:Nat,a17 = (x:Int):=⟨a17.toNat,by omega⟩
  subst hx18
  refine Arw (Ch i Bhy ty3 h10_29 r8 (q:=(i:Int)) h10_31 rfl ha17) fun v16 r16=>?_
  have ⟨g19a,g19b⟩:=At.rng r16
  refine l_v (Bc ty3 rfl r16) (Lo (iV ((x18:Int))) (Arx rfl rfl k15 fun K20 k20=>l_v (Ah (v:=(iV (g))) h10_2) (l_v (Ah (v:=(.pointer (some ⟨rx,0,none⟩))) h10_0) (Asf (iV ((x18:Int))) (l_v (Ck rfl) (l_v (Cb (off':=49) Biv rfl rfl ⟨_,Ab Bit,rfl⟩ (by decide) rfl rfl) (l_v (Cq (k':=1) x18 Biq ⟨_,Ab Bhx,rfl⟩ rfl (q:=(x18:Int)) rfl rfl (by omega) (off':=(9 + (40 + x18))) (by omega)) ?_)))))))
  have hr21:0 ≤ xg xs ((40 + x18))∧xg xs ((40 + x18)) ≤ 8000000:=Lu hF hcap (by omega)
  refine Arv (Mq (j:=1) (f:=(Value.int .i64)) (pc:=[vh,vk,vf,vs,g0,g1,g2,g3,g4]) (i:=(40 + x18)) (bv:=xg xs ((40 + x18))) ⟨_,Bib,rfl⟩ rfl rfl rfl (Pj (by rw [hF.len]; omega)) ?_)
  refine l_v (Ajx (p:=g) (q:=xg xs ((40 + x18))) rfl rfl) (Lo (iV ((min g (xg xs ((40 + x18)))))) (Arx rfl rfl k20 fun K22 k22=>Asf (iV ((min g (xg xs ((40 + x18)))))) (l_v (Gl rfl rfl) (l_k k22 (Asg (t:=decide ((min g (xg xs ((40 + x18)))) > 0)) rfl (fun b23=>?_) (fun b23=>?_))))))
  ·have q23:=of_decide_eq_true b23
   refine Ai fun K24 k24=>Atd (Ash 0 Aqy rfl (Ah (v:=(.pointer (some ⟨rx,0,none⟩))) h10_0) (Ash 1 Aoo rfl (Ah (v:=(iV ((x18:Int)))) rfl) (Ash 2 Aop rfl (Ck rfl) (Ash 3 Aqz rfl (Cb (off':=49) Biv rfl rfl ⟨_,Ab Bit,rfl⟩ (by decide) rfl rfl) (Ash 4 Ara rfl (Cq (k':=1) x18 Biq ⟨_,Ab Bhx,rfl⟩ rfl (q:=(x18:Int)) rfl rfl (by omega) (off':=(9 + (40 + x18))) (by omega)) (Ash 6 [o1,o1,o1,o1,o1,o0,o1,o0,o0,o0,o0,o0] rfl (Ah (v:=(iV ((min g (xg xs ((40 + x18))))))) rfl) (Ash 8 [o1,o1,o1,o1,o1,o0,o1,o0,o1,o0,o0,o0] rfl (Ck rfl) (Ash 9 [o1,o1,o1,o1,o1,o0,o1,o0,o1,o1,o0,o0] rfl (Cb (off':=49) Biv rfl rfl ⟨_,Ab Bit,rfl⟩ (by decide) rfl rfl) ?_))))))))
   have hr25:0 ≤ xg xs ((40 + x18))∧xg xs ((40 + x18)) ≤ 8000000:=Lu hF hcap (by omega)
   refine Asm 5 [o1,o1,o1,o1,o1,o1,o1,o0,o1,o1,o0,o0] rfl (Mq (j:=1) (f:=(Value.int .i64)) (pc:=[vh,vk,vf,vs,g0,g1,g2,g3,g4]) (i:=(40 + x18)) (bv:=xg xs ((40 + x18))) ⟨_,Bib,rfl⟩ rfl rfl rfl (Pj (by rw [hF.len]; omega)) ⟨Bml,?_⟩)
   refine Asi 7 zZ7 rfl (Ou rfl rfl (z:=(xg xs ((40 + x18)) - (min g (xg xs ((40 + x18)))))) (Bo (by rfl) (by omega) (by omega))) (Asi 10 zZ0 rfl (Cq (k':=1) x18 Biq ⟨_,Ab Bhx,rfl⟩ rfl (q:=(x18:Int)) rfl rfl (by omega) (off':=(9 + (40 + x18))) (by omega)) (Asv 11 zZ1 rfl (Nq (j:=1) (f:=(Value.int .i64)) (pc:=[vh,vk,vf,vs,g0,g1,g2,g3,g4]) (i:=(40 + x18)) (bv:=(xg xs ((40 + x18)) - (min g (xg xs ((40 + x18)))))) ⟨_,Ab Bhx,rfl⟩ rfl rfl rfl rfl rfl (by rw [hF.len]; omega) ⟨Bml,?_⟩)))
   refine Ec rfl (k24 _ _ _ _ ?_)
   refine Ai fun K26 k26=>Atd (Ash 0 Aol rfl (Ah (v:=(.pointer (some ⟨rx,0,none⟩))) h10_0) (Ash 1 Aom rfl (Ah (v:=(iV ((sale:Int)))) h10_1) (Ash 2 Aon rfl (Ah (v:=(iV ((x18:Int)))) rfl) (Ash 3 Aqg rfl (Ck rfl) (Ash 4 Aqh rfl (Cb (off':=9) Biv rfl rfl ⟨_,Ab Bjx,rfl⟩ (by decide) rfl rfl) (Ash 5 Aqi rfl (Cq (k':=5) sale Bjz ⟨_,Ab Bit,rfl⟩ rfl (q:=(sale:Int)) rfl rfl (by omega) (off':=(9 + sale * 5)) rfl) (Ash 6 Aqj rfl (Cq (k':=1) x18 Biq ⟨_,Ab Bhx,rfl⟩ rfl (q:=(x18:Int)) rfl rfl (by omega) (off':=(9 + (sale * 5 + x18))) (by omega)) (Ash 8 Aoq rfl (Ah (v:=(iV ((min g (xg xs ((40 + x18))))))) rfl) (Ash 10 Aor rfl (Ck rfl) (Ash 11 Aos rfl (Cb (off':=9) Biv rfl rfl ⟨_,Ab Bjx,rfl⟩ (by decide) rfl rfl) (Ash 12 Aot rfl (Cq (k':=5) sale Bjz ⟨_,Ab Bit,rfl⟩ rfl (q:=(sale:Int)) rfl rfl (by omega) (off':=(9 + sale * 5)) rfl) ?_)))))))))))
   have hr27:0 ≤ xg ((xs.set ((40 + x18)) ((xg xs ((40 + x18)) - (min g (xg xs ((40 + x18)))))))) ((sale * 5 + x18))∧xg ((xs.set ((40 + x18)) ((xg xs ((40 + x18)) - (min g (xg xs ((40 + x18)))))))) ((sale * 5 + x18)) ≤ 8000000:=Vs hF hcap (by omega) (by omega)
   refine Asm 7 Aou rfl (Mq (j:=1) (f:=(Value.int .i64)) (pc:=[vh,vk,vf,vs,g0,g1,g2,g3,g4]) (i:=(sale * 5 + x18)) (bv:=xg ((xs.set ((40 + x18)) ((xg xs ((40 + x18)) - (min g (xg xs ((40 + x18)))))))) ((sale * 5 + x18))) ⟨_,Bib,rfl⟩ rfl rfl rfl (Pj (by rw [(List.length_set.trans hF.len)]; omega)) ⟨Bml,?_⟩)
   refine Asi 9 Aqk rfl (Br rfl rfl (z:=(xg ((xs.set ((40 + x18)) ((xg xs ((40 + x18)) - (min g (xg xs ((40 + x18)))))))) ((sale * 5 + x18)) + (min g (xg xs ((40 + x18)))))) (Bo (by rfl) (by omega) (by omega))) (Asi 13 Aql rfl (Cq (k':=1) x18 Biq ⟨_,Ab Bhx,rfl⟩ rfl (q:=(x18:Int)) rfl rfl (by omega) (off':=(9 + (sale * 5 + x18))) (by omega)) (Asv 14 Aqm rfl (Nq (j:=1) (f:=(Value.int .i64)) (pc:=[vh,vk,vf,vs,g0,g1,g2,g3,g4]) (i:=(sale * 5 + x18)) (bv:=(xg ((xs.set ((40 + x18)) ((xg xs ((40 + x18)) - (min g (xg xs ((40 + x18)))))))) ((sale * 5 + x18)) + (min g (xg xs ((40 + x18)))))) ⟨_,Ab Bhx,rfl⟩ rfl rfl rfl rfl rfl (by rw [(List.length_set.trans hF.len)]; omega) ⟨Bml,?_⟩)))
   refine Ec rfl (k26 _ _ _ _ ?_)
   refine w_q rfl rfl fun K28 k28=>Asf (iV ((min g (xg xs ((40 + x18)))))) (Lo (iV ((min g (xg xs ((40 + x18)))))) (l_k k28 (Aq (hret _ _ _ (⟨rfl,(min g (xg xs ((40 + x18)))),_,_,Eq.trans (b:=(iV ((min g (xg xs ((40 + x18))))))) rfl rfl,rfl,?_⟩)))))
   exact Afd hF htl (by omega) (by omega) (Zf ha6 ha17) ht (by omega) (by omega) (by omega)
  have q23:=of_decide_eq_false b23
  refine Al (k14 _ _ _ _ ?_)
  refine Ag rfl rfl (l_v (Br h10_31 rfl (z:=(((i + 1):Nat):Int)) wrE) (Asf (iV ((((i + 1):Nat):Int))) (Ac ?_)))
  refine ⟨_,?_,((i + 1)),rfl,rfl,rfl,rfl,h10_0,h10_1,h10_2,h10_3,h10_29,h10_30,rfl,(by omega),(Eg p10_1 (by intro y hy; rw [ha17] at hy; obtain rfl:x18 = y:=(by have:=Option.some.inj hy; omega); omega)),trivial⟩
  omega
 have q13:=of_decide_eq_false b13
 refine Bx (k3 _ _ _ _ ?_)
 refine Asb rfl rfl fun K29 K30 k29 k30=>l_v (Ah (v:=(.pointer (some ⟨rx,0,none⟩))) h10_0) (l_v (Ck rfl) (l_v (Cb (off':=0) Biv rfl rfl ⟨_,Ab Bkn,rfl⟩ (by decide) rfl rfl) (l_v (Cb (off':=0) Bjk rfl rfl ⟨_,Ab Bjn,rfl⟩ (by decide) rfl rfl) (l_v (Cb (off':=3) Bia rfl rfl ⟨_,Ab Bje,rfl⟩ (by decide) rfl rfl) (Arv (Dt (i:=1) (v:=vs) ⟨_,Bif,rfl⟩ rfl rfl rfl ?_))))))
 refine l_v (Ah (v:=(iV ((sale:Int)))) h10_1) (Arw (Ch sale Bif Up rfl rs (q:=(sale:Int)) rfl rfl ha6) fun v31 r31=>Arw (Ay Sale.f_sellers Bin rfl rfl Vh (by decide) rfl r31) fun v32 r32=>Arw (Ax Vh rfl r32) fun v33 r33=>?_)
 have g34:=Bmn r33
 refine l_v (Ci (el:=3) Bhy rfl r33) (Asf (iV (0)) (l_k k30 (Ao (Cc (fun mm ee dd ρ' σ'=>∃ (k:Nat) (trk:List Bool) (rx35_3:List Bool),(a6.sellers.length - k) = mm∧[] = dd∧ρ = ρ'∧((rt,oC (rx35_3.map Value.bool).toArray 191) :: ((rx,oC ([vh,vk,vf,vs,g0,g1,g2,g3,g4] ++ xs.map (Value.int .i64)).toArray 188) :: σ)) = σ'∧ee 0 = (.pointer (some ⟨rx,0,none⟩))∧ee 1 = (iV ((sale:Int)))∧ee 2 = (iV (g))∧ee 81 = v33∧ee 82 = (iV (((a6.sellers.length:Nat):Int)))∧ee 3 = (.pointer (some ⟨rt,0,none⟩))∧ee 83 = (iV ((k:Int)))∧(k ≤ a6.sellers.length)∧(∀ s,trB (tr.set sale true) s = true→trB trk s = true)∧(Clo (Ds m) xs (trB (tr.set sale true)) (trB trk))∧(∀ j,j < k→TriZ xs trk a6.sellers j)∧rx35_3 = trk∧rx35_3.length = 8∧True) (m:=_) ⟨0,(tr.set sale true),(tr.set sale true),rfl,rfl,rfl,rfl,h10_0,h10_1,h10_2,rfl,rfl,h10_3,rfl,(Nat.zero_le _),(fun _ h=>h),Clo.refl,(fun j h=>absurd h (Nat.not_lt_zero _)),(rfl),(List.length_set.trans htl),trivial⟩ ?_))))
 rintro m35 e35 _ _ _ ⟨k,trk,rx35_3,rfl,rfl,rfl,rfl,h35_0,h35_1,h35_2,h35_81,h35_82,h35_3,h35_83,p35_0,p35_1,p35_2,p35_3,RX35_3,RL35_3,_⟩
 subst RX35_3
 refine w_q rfl rfl fun K36 k36=>l_v (Da h35_83 h35_82) (Asa k36 fun K37 k37=>Asg (t:=decide ((k:Int) < ((a6.sellers.length:Nat):Int))) rfl (fun b38=>?_) (fun b38=>?_))
 ·have q38:=of_decide_eq_true b38
  refine Al (k37 _ _ _ _ ?_)
  refine Ai fun K39 k39=>Ao (w_q rfl rfl fun K40 k40=>?_)
  obtain ⟨a42,ha42⟩:=Ed (xs:=a6.sellers) (i:=k) (by omega)
  have gt_a42:=gs_a6.2.2.1 _ _ ha42
  obtain ⟨x43,hx43⟩:∃ x:Nat,a42 = (x:Int):=⟨a42.toNat,by omega⟩
  subst hx43
  refine Arw (Ch k Bhy ty3 h35_81 r33 (q:=(k:Int)) h35_83 rfl ha42) fun v41 r41=>?_
  have ⟨g44a,g44b⟩:=At.rng r41
  refine l_v (Bc ty3 rfl r41) (Lo (iV ((x43:Int))) (Arx rfl rfl k40 fun K45 k45=>l_v (Ah (v:=(.pointer (some ⟨rx,0,none⟩))) h35_0) (l_v (Ck rfl) (l_v (Cb (off':=0) Biv rfl rfl ⟨_,Ab Bkn,rfl⟩ (by decide) rfl rfl) (l_v (Cb (off':=0) Bjk rfl rfl ⟨_,Ab Bjn,rfl⟩ (by decide) rfl rfl) (l_v (Cb (off':=3) Bia rfl rfl ⟨_,Ab Bje,rfl⟩ (by decide) rfl rfl) (Arv (Dt (i:=1) (v:=vs) ⟨_,Bif,rfl⟩ rfl rfl rfl ?_))))))))
  have g46:=Bmn rs
  refine l_v (Ci (el:=51) Bif rfl rs) (Asf (iV (0)) (l_k k45 (Ao (Cc (fun mm ee dd ρ' σ'=>∃ (o:Nat) (trk:List Bool) (rx47_3:List Bool),(m.sales.length - o) = mm∧[] = dd∧ρ = ρ'∧((rt,oC (rx47_3.map Value.bool).toArray 191) :: ((rx,oC ([vh,vk,vf,vs,g0,g1,g2,g3,g4] ++ xs.map (Value.int .i64)).toArray 188) :: σ)) = σ'∧ee 0 = (.pointer (some ⟨rx,0,none⟩))∧ee 1 = (iV ((sale:Int)))∧ee 2 = (iV (g))∧ee 13 = (iV ((x43:Int)))∧ee 81 = v33∧ee 82 = (iV (((a6.sellers.length:Nat):Int)))∧ee 83 = (iV ((k:Int)))∧ee 93 = (iV (((m.sales.length:Nat):Int)))∧ee 3 = (.pointer (some ⟨rt,0,none⟩))∧ee 94 = (iV ((o:Int)))∧(o ≤ m.sales.length)∧(∀ s,trB (tr.set sale true) s = true→trB trk s = true)∧(Clo (Ds m) xs (trB (tr.set sale true)) (trB trk))∧(∀ j,j < k→TriZ xs trk a6.sellers j)∧(∀ j,j < o→TriO xs trk x43 j)∧rx47_3 = trk∧rx47_3.length = 8∧True) (m:=_) ⟨0,rx35_3,rx35_3,rfl,rfl,rfl,rfl,h35_0,h35_1,h35_2,rfl,h35_81,h35_82,h35_83,rfl,h35_3,rfl,(Nat.zero_le _),p35_1,p35_2,p35_3,(fun j h=>absurd h (Nat.not_lt_zero _)),(rfl),RL35_3,trivial⟩ ?_))))
  rintro m47 e47 _ _ _ ⟨o,trk,rx47_3,rfl,rfl,rfl,rfl,h47_0,h47_1,h47_2,h47_13,h47_81,h47_82,h47_83,h47_93,h47_3,h47_94,p47_0,p47_1,p47_2,p47_3,p47_4,RX47_3,RL47_3,_⟩
  subst RX47_3
  refine w_q rfl rfl fun K48 k48=>l_v (Da h47_94 h47_93) (Asa k48 fun K49 k49=>Asg (t:=decide ((o:Int) < ((m.sales.length:Nat):Int))) rfl (fun b50=>?_) (fun b50=>?_))
  ·have q50:=of_decide_eq_true b50
   refine Al (k49 _ _ _ _ ?_)
   refine Ai fun K51 k51=>Ao (w_q rfl rfl fun K52 k52=>l_v (Ah (v:=(iV ((o:Int)))) h47_94) (Lo (iV ((o:Int))) (Ary rfl rfl k52 fun K53 K54 k53 k54=>l_v (Ah (v:=(.pointer (some ⟨rt,0,none⟩))) h47_3) (Asf (iV ((o:Int))) (l_v (Ck rfl) (l_v (Cq (k':=1) o Blr ⟨_,Ab Biw,rfl⟩ rfl (q:=(o:Int)) rfl rfl (by omega) (off':=o) (by omega)) (Arv (Adu (j:=0) (f:=Value.bool) (i:=o) (bv:=trB rx47_3 o) ⟨_,Bjf,rfl⟩ rfl rfl (Alz (by rw [RL47_3]; omega)) ?_))))))))
   refine Asf (.bool (trB rx47_3 o)) (Cn (trB rx47_3 o) (fun b56=>?_) (fun b56=>?_))
   ·refine Ap (gN rfl b56) (Ap (gN rfl b56) (Ap (gN rfl b56) (Ap (gN rfl b56) (Ap (gN rfl b56) (Ap (gN rfl b56) (Ap (gN rfl b56) (Ap (gN rfl b56) (Ap (gN rfl b56) (l_v (Bt rfl b56 (v:=(.bool (true))) rfl) (l_k k54 (Co rfl rfl (Bx (k51 _ _ _ _ ?_)))))))))))))
    refine Ag rfl rfl (l_v (Br h47_94 rfl (z:=(((o + 1):Nat):Int)) wrE) (Asf (iV ((((o + 1):Nat):Int))) (Ac ?_)))
    refine ⟨_,?_,((o + 1)),(rx47_3),rx47_3,rfl,rfl,rfl,rfl,h47_0,h47_1,h47_2,h47_13,h47_81,h47_82,h47_83,h47_93,h47_3,rfl,(by omega),p47_1,p47_2,p47_3,(Eg p47_4 (fun _=>b56)),(rfl),RL47_3,trivial⟩
    omega
   refine Aa (gY rfl b56) (Ah (v:=(.pointer (some ⟨rx,0,none⟩))) h47_0) (l_M (iV ((o:Int))) (gY rfl b56) rfl (Aa (gY rfl b56) (Ah (v:=(iV ((x43:Int)))) h47_13) (Aa (gY rfl b56) (Ck rfl) (Aa (gY rfl b56) (Cb (off':=9) Biv rfl rfl ⟨_,Ab Bjx,rfl⟩ (by decide) rfl rfl) (Aa (gY rfl b56) (Cq (k':=5) o Bjz ⟨_,Ab Bit,rfl⟩ rfl (q:=(o:Int)) rfl rfl (by omega) (off':=(9 + o * 5)) rfl) (Aa (gY rfl b56) (Cq (k':=1) x43 Biq ⟨_,Ab Bhx,rfl⟩ rfl (q:=(x43:Int)) rfl rfl (by omega) (off':=(9 + (o * 5 + x43))) (by omega)) ?_))))))
   have hr57:0 ≤ xg xs ((o * 5 + x43))∧xg xs ((o * 5 + x43)) ≤ 8000000:=Lu hF hcap (by omega)
   refine Ae (gY rfl b56) (Mq (j:=1) (f:=(Value.int .i64)) (pc:=[vh,vk,vf,vs,g0,g1,g2,g3,g4]) (i:=(o * 5 + x43)) (bv:=xg xs ((o * 5 + x43))) ⟨_,Bib,rfl⟩ rfl rfl rfl (Pj (by rw [hF.len]; omega)) ?_)
   refine Aa (gY rfl b56) (Ek rfl rfl) (l_v (Bn rfl b56 (v:=(.bool (xg xs ((o * 5 + x43)) == 0))) rfl) (l_k k54 (Asg (t:=xg xs ((o * 5 + x43)) == 0) rfl (fun b58=>?_) (fun b58=>?_))))
   ·have q58:=Jr b58
    refine Bx (k51 _ _ _ _ ?_)
    refine Ag rfl rfl (l_v (Br h47_94 rfl (z:=(((o + 1):Nat):Int)) wrE) (Asf (iV ((((o + 1):Nat):Int))) (Ac ?_)))
    refine ⟨_,?_,((o + 1)),(rx47_3),rx47_3,rfl,rfl,rfl,rfl,h47_0,h47_1,h47_2,h47_13,h47_81,h47_82,h47_83,h47_93,h47_3,rfl,(by omega),p47_1,p47_2,p47_3,(Eg p47_4 (fun h=>absurd q58 h)),(rfl),RL47_3,trivial⟩
    omega
   have q58:=Jq b58
   refine Al (k53 _ _ _ _ ?_)
   refine w_q rfl rfl fun K59 k59=>l_v (Ah (v:=(.pointer (some ⟨rx,0,none⟩))) h47_0) (Asf (iV ((o:Int))) (l_v (Ah (v:=(iV (g))) h47_2) (l_v (Ah (v:=(.pointer (some ⟨rx,0,none⟩))) h47_0) (Asf (iV ((o:Int))) (l_v (Ah (v:=(iV ((x43:Int)))) h47_13) (l_v (Ck rfl) (l_v (Cb (off':=9) Biv rfl rfl ⟨_,Ab Bjx,rfl⟩ (by decide) rfl rfl) (l_v (Cq (k':=5) o Bjz ⟨_,Ab Bit,rfl⟩ rfl (q:=(o:Int)) rfl rfl (by omega) (off':=(9 + o * 5)) rfl) (l_v (Cq (k':=1) x43 Biq ⟨_,Ab Bhx,rfl⟩ rfl (q:=(x43:Int)) rfl rfl (by omega) (off':=(9 + (o * 5 + x43))) (by omega)) ?_)))))))))
   have hr60:0 ≤ xg xs ((o * 5 + x43))∧xg xs ((o * 5 + x43)) ≤ 8000000:=Lu hF hcap (by omega)
   refine Arv (Mq (j:=1) (f:=(Value.int .i64)) (pc:=[vh,vk,vf,vs,g0,g1,g2,g3,g4]) (i:=(o * 5 + x43)) (bv:=xg xs ((o * 5 + x43))) ⟨_,Bib,rfl⟩ rfl rfl rfl (Pj (by rw [hF.len]; omega)) ?_)
   refine l_v (Ajx (p:=g) (q:=xg xs ((o * 5 + x43))) rfl rfl) (l_v (Ah (v:=(.pointer (some ⟨rt,0,none⟩))) h47_3) (Bj (Bmj Arz) (Bj (Bmj Arz) (Arv (Cm (vs:=[(.pointer (some ⟨rx,0,none⟩)),(iV ((o:Int))),(iV ((min g (xg xs ((o * 5 + x43)))))),(.pointer (some ⟨rt,0,none⟩))]) (ih _ (by have:=Ahu (sale:=sale) (tr:=tr) (tr':=rx47_3) (fun s h=>p47_1 s (by rw [Iq (by omega)]; split; rfl; exact h)) (by omega) ht (p47_1 sale (by rw [Iq (by omega),if_pos rfl])); omega) (sale:=o) (g:=(min g (xg xs ((o * 5 + x43))))) (xs:=xs) (tr:=rx47_3) hF (by omega) (by omega) (by omega) RL47_3 b56 rfl) Tryd.func91 rfl rfl ⟨rfl,rfl,rfl,rfl,trivial⟩ fun w61 ρ61 σ61 hc61=>?_)))))
   obtain ⟨hr61,n61,ys61,us61,hw61,hs61,MP61⟩:=hc61
   replace hr61:=hr61.symm; subst hr61 hs61 hw61
   have hn61:=MP61.n0
   have hl61:=MP61.le
   have ho61:o ≠ sale:=fun e=>by subst e; have:=p47_1 o (by rw [Iq (by omega),if_pos rfl]); rw [this] at b56; cases b56
   refine Lo (iV (n61)) (Arx rfl rfl k59 fun K62 k62=>Asf (iV (n61)) (l_v (Gl rfl rfl) (l_k k62 (Asg (t:=decide (n61 > 0)) rfl (fun b63=>?_) (fun b63=>?_)))))
   ·have q63:=of_decide_eq_true b63
    refine Ai fun K64 k64=>Atd (Ash 0 Aol rfl (Ah (v:=(.pointer (some ⟨rx,0,none⟩))) h47_0) (Ash 1 Aom rfl (Ah (v:=(iV ((o:Int)))) rfl) (Ash 2 Aon rfl (Ah (v:=(iV ((x43:Int)))) h47_13) (Ash 3 Aqg rfl (Ck rfl) (Ash 4 Aqh rfl (Cb (off':=9) Biv rfl rfl ⟨_,Ab Bjx,rfl⟩ (by decide) rfl rfl) (Ash 5 Aqi rfl (Cq (k':=5) o Bjz ⟨_,Ab Bit,rfl⟩ rfl (q:=(o:Int)) rfl rfl (by omega) (off':=(9 + o * 5)) rfl) (Ash 6 Aqj rfl (Cq (k':=1) x43 Biq ⟨_,Ab Bhx,rfl⟩ rfl (q:=(x43:Int)) rfl rfl (by omega) (off':=(9 + (o * 5 + x43))) (by omega)) (Ash 8 Aoq rfl (Ah (v:=(iV (n61))) rfl) (Ash 10 Aor rfl (Ck rfl) (Ash 11 Aos rfl (Cb (off':=9) Biv rfl rfl ⟨_,Ab Bjx,rfl⟩ (by decide) rfl rfl) (Ash 12 Aot rfl (Cq (k':=5) o Bjz ⟨_,Ab Bit,rfl⟩ rfl (q:=(o:Int)) rfl rfl (by omega) (off':=(9 + o * 5)) rfl) ?_)))))))))))
    have hr65:0 ≤ xg ys61 ((o * 5 + x43))∧xg ys61 ((o * 5 + x43)) ≤ 8000000:=Lu MP61.ok hcap (by omega)
    refine Asm 7 Aou rfl (Mq (j:=1) (f:=(Value.int .i64)) (pc:=[vh,vk,vf,vs,g0,g1,g2,g3,g4]) (i:=(o * 5 + x43)) (bv:=xg ys61 ((o * 5 + x43))) ⟨_,Bib,rfl⟩ rfl rfl rfl (Pj (by rw [MP61.ok.len]; omega)) ⟨Bml,?_⟩)
    refine Asi 9 Aqk rfl (Ou rfl rfl (z:=(xg ys61 ((o * 5 + x43)) - n61)) (Bo (by rfl) (by omega) (by omega))) (Asi 13 Aql rfl (Cq (k':=1) x43 Biq ⟨_,Ab Bhx,rfl⟩ rfl (q:=(x43:Int)) rfl rfl (by omega) (off':=(9 + (o * 5 + x43))) (by omega)) (Asv 14 Aqm rfl (Nq (j:=1) (f:=(Value.int .i64)) (pc:=[vh,vk,vf,vs,g0,g1,g2,g3,g4]) (i:=(o * 5 + x43)) (bv:=(xg ys61 ((o * 5 + x43)) - n61)) ⟨_,Ab Bhx,rfl⟩ rfl rfl rfl rfl rfl (by rw [MP61.ok.len]; omega) ⟨Bml,?_⟩)))
    refine Ec rfl (k64 _ _ _ _ ?_)
    refine Ai fun K66 k66=>Atd (Ash 0 Aol rfl (Ah (v:=(.pointer (some ⟨rx,0,none⟩))) h47_0) (Ash 1 Aom rfl (Ah (v:=(iV ((sale:Int)))) h47_1) (Ash 2 Aon rfl (Ah (v:=(iV ((x43:Int)))) h47_13) (Ash 3 Aqg rfl (Ck rfl) (Ash 4 Aqh rfl (Cb (off':=9) Biv rfl rfl ⟨_,Ab Bjx,rfl⟩ (by decide) rfl rfl) (Ash 5 Aqi rfl (Cq (k':=5) sale Bjz ⟨_,Ab Bit,rfl⟩ rfl (q:=(sale:Int)) rfl rfl (by omega) (off':=(9 + sale * 5)) rfl) (Ash 6 Aqj rfl (Cq (k':=1) x43 Biq ⟨_,Ab Bhx,rfl⟩ rfl (q:=(x43:Int)) rfl rfl (by omega) (off':=(9 + (sale * 5 + x43))) (by omega)) (Ash 8 Aoq rfl (Ah (v:=(iV (n61))) rfl) (Ash 10 Aor rfl (Ck rfl) (Ash 11 Aos rfl (Cb (off':=9) Biv rfl rfl ⟨_,Ab Bjx,rfl⟩ (by decide) rfl rfl) (Ash 12 Aot rfl (Cq (k':=5) sale Bjz ⟨_,Ab Bit,rfl⟩ rfl (q:=(sale:Int)) rfl rfl (by omega) (off':=(9 + sale * 5)) rfl) ?_)))))))))))
    have hr67:0 ≤ xg ((ys61.set ((o * 5 + x43)) ((xg ys61 ((o * 5 + x43)) - n61)))) ((sale * 5 + x43))∧xg ((ys61.set ((o * 5 + x43)) ((xg ys61 ((o * 5 + x43)) - n61)))) ((sale * 5 + x43)) ≤ 8000000:=Vs MP61.ok hcap (by omega) (by omega)
    refine Asm 7 Aou rfl (Mq (j:=1) (f:=(Value.int .i64)) (pc:=[vh,vk,vf,vs,g0,g1,g2,g3,g4]) (i:=(sale * 5 + x43)) (bv:=xg ((ys61.set ((o * 5 + x43)) ((xg ys61 ((o * 5 + x43)) - n61)))) ((sale * 5 + x43))) ⟨_,Bib,rfl⟩ rfl rfl rfl (Pj (by rw [(List.length_set.trans MP61.ok.len)]; omega)) ⟨Bml,?_⟩)
    refine Asi 9 Aqk rfl (Br rfl rfl (z:=(xg ((ys61.set ((o * 5 + x43)) ((xg ys61 ((o * 5 + x43)) - n61)))) ((sale * 5 + x43)) + n61)) (Bo (by rfl) (by omega) (by omega))) (Asi 13 Aql rfl (Cq (k':=1) x43 Biq ⟨_,Ab Bhx,rfl⟩ rfl (q:=(x43:Int)) rfl rfl (by omega) (off':=(9 + (sale * 5 + x43))) (by omega)) (Asv 14 Aqm rfl (Nq (j:=1) (f:=(Value.int .i64)) (pc:=[vh,vk,vf,vs,g0,g1,g2,g3,g4]) (i:=(sale * 5 + x43)) (bv:=(xg ((ys61.set ((o * 5 + x43)) ((xg ys61 ((o * 5 + x43)) - n61)))) ((sale * 5 + x43)) + n61)) ⟨_,Ab Bhx,rfl⟩ rfl rfl rfl rfl rfl (by rw [(List.length_set.trans MP61.ok.len)]; omega) ⟨Bml,?_⟩)))
    refine Ec rfl (k66 _ _ _ _ ?_)
    refine w_q rfl rfl fun K68 k68=>Asf (iV (n61)) (Lo (iV (n61)) (l_k k68 (Aq (hret _ _ _ (⟨rfl,n61,_,_,Eq.trans (b:=(iV (n61))) rfl rfl,rfl,?_⟩)))))
    exact Abm htl (by omega) (by omega) (by omega) (Zf ha6 ha42) ht p47_1 b56 q58 (g:=min g (xg xs (o * 5 + x43))) (by omega) (by omega) MP61 (by omega)
   obtain ⟨hz61,hy61,hc61⟩:=MP61.zero (of_decide_eq_false b63)
   replace hy61:=hy61.symm; subst hy61
   have q63:=of_decide_eq_false b63
   refine Al (k51 _ _ _ _ ?_)
   refine Ag rfl rfl (l_v (Br h47_94 rfl (z:=(((o + 1):Nat):Int)) wrE) (Asf (iV ((((o + 1):Nat):Int))) (Ac ?_)))
   refine ⟨_,?_,((o + 1)),(us61),us61,rfl,rfl,rfl,rfl,h47_0,h47_1,h47_2,h47_13,h47_81,h47_82,h47_83,h47_93,h47_3,rfl,(by omega),(fun s h=>MP61.mono s (p47_1 s h)),(p47_2.trans hc61 MP61.mono),(TriZ.mono MP61.mono p47_3),(Eg (TriO.mono MP61.mono p47_4) (fun _=>MP61.own)),(rfl),MP61.len,trivial⟩
   omega
  have q50:=of_decide_eq_false b50
  refine Bx (k39 _ _ _ _ ?_)
  refine Ag rfl rfl (l_v (Br h47_83 rfl (z:=(((k + 1):Nat):Int)) wrE) (Asf (iV ((((k + 1):Nat):Int))) (Ac ?_)))
  refine ⟨_,?_,((k + 1)),(rx47_3),rx47_3,rfl,rfl,rfl,rfl,h47_0,h47_1,h47_2,h47_81,h47_82,h47_3,rfl,(by omega),p47_1,p47_2,(Eg p47_3 (TriO.all hF (by omega) (by omega) ha42 p47_4)),(rfl),RL47_3,trivial⟩
  omega
 have q38:=of_decide_eq_false b38
 refine Bx (k29 _ _ _ _ ?_)
 refine w_q rfl rfl fun K69 k69=>Lo (iV (0)) (l_k k69 (Aq (hret _ _ _ (⟨rfl,0,_,_,Eq.trans (b:=(iV (0))) rfl rfl,rfl,?_⟩))))
 exact Afe hF htl RL35_3 (by omega) p35_1 p35_2 (Aie ha6 (by omega) p10_1) (Ama ha6 (by omega) p35_3)
end
section
open Go
theorem Afx {P:Program} {ρ:Ro} {e:Env} {ty t el:TypeId} {len k':Nat} {z:Value} {zc:List Value} (hT:P.underlying t = some (.array len el)) (hz:Fw P t z) (hzc:z.cells = zc.toArray) (hE:∃ i,P.info? el = some i∧i.size = k'):Yld P ρ e (.build t #[]) ty (.agg zc.toArray) :=
 Mt (s:=Instr.build t ((#[]:Array (Nat × Operand)).map fun (p:Nat × Operand)=>(p.1,Af e p.2))) (fun _ _ _ _=>rfl) fun ρ' σ _=>by
  unfold Instr.build
  show wpS P ρ' ((zeroValue t).bind _) σ _
  rw [Ad]
  refine Jz hz ?_
  show wpS P ρ' ((underlying t).bind _) σ _
  rw [Ad]
  refine Az hT ?_
  dsimp only
  show wpS P ρ' ((sizeOf el).bind _) σ _
  rw [Ad]
  refine Dx hE ?_
  have e1:((#[]:Array (Nat × Operand)).map fun (p:Nat × Operand)=>(p.1,Af e p.2)).toList = []:=by simp
  simp only [e1,hzc,Instr.fill]
  exact ⟨rfl,rfl⟩
/-- What each house may sell,when the houses before h have been looked at. -/
def Ps (m:Market) (set h:Nat):List Int:=(List.range 5).map fun j=>if j < h∧Cu set j = true then 8000000 else Em m ((j:Nat):Int)
def Oj (m:Market) (set h:Nat):List Int:=List.replicate 40 0 ++ Ps m set h
theorem Oa {m:Market} {set h:Nat}:(Ps m set h).length = 5:=by simp [Ps]
theorem Aiu {m:Market} {set h:Nat}:(Oj m set h).length = 45:=by simp [Oj,Oa]
theorem Anm {m:Market} {set:Nat}:List.replicate 40 0 ++ En m = Oj m set 0:=by simp [Oj,Ps,En]
theorem Qz {m:Market} {set h k:Nat} (hk:k < 5):(Ps m set h)[k]? = some (if k < h∧Cu set k = true then 8000000 else Em m (k:Int)):=by
 unfold Ps; rw [List.getElem?_map,List.getElem?_range hk]; rfl
theorem Ano {m:Market} {set h:Nat} (hh:h < 5) (hb:Cu set h = true):(Oj m set h).set (40 + h) 8000000 = Oj m set (h + 1):=by
 unfold Oj
 rw [List.set_append_right _ _ (by simp),show 40 + h - (List.replicate 40 (0:Int)).length = h by simp]
 congr 1
 apply List.ext_getElem?
 intro k
 rw [List.getElem?_set,Oa]
 by_cases hk:k < 5
 ·rw [Qz hk,Qz hk]
  by_cases e:h = k
  ·subst e; rw [if_pos rfl,if_pos hk,if_pos ⟨by omega,hb⟩]
  ·rw [if_neg e]
   congr 1
   by_cases h2:k < h
   ·simp [h2,show k < h + 1 by omega]
   ·simp [h2,show ¬ k < h + 1 by omega]
 ·rw [List.getElem?_eq_none (l:=Ps m set (h + 1)) (by rw [Oa]; omega),List.getElem?_eq_none (l:=Ps m set h) (by rw [Oa]; omega)]
  split
  ·omega
  ·rfl
theorem Ann {m:Market} {set h:Nat} (hb:Cu set h = false):Oj m set h = Oj m set (h + 1):=by
 unfold Oj Ps
 congr 1
 apply List.map_congr_left
 intro k _
 by_cases e:k = h
 ·subst e; simp [hb]
 ·by_cases h2:k < h
  ·simp [h2,show k < h + 1 by omega]
  ·simp [h2,show ¬ k < h + 1 by omega]
theorem Akt {m:Market} (ok:MarketOk m) (set:Nat):∀ h,h < 5→Mg m set h ≤ 8000000:=fun h _=>by
 have:=Tp ok (h:Int)
 unfold Mg; split <;> omega
structure EnQ (m:Market) (set i:Nat) (gr:Int) (xs:List Int):Prop where
 ok:FlowOk (Ds m) (Mg m set) xs
 done:∀ s,s < i→s < 8→Fv xs s = Eo m s
 cur:Fv xs i + gr = Eo m i
 rest:∀ s,i < s→s < 8→Fv xs s = 0
structure EnO (m:Market) (set i:Nat) (xs:List Int):Prop where
 ok:FlowOk (Ds m) (Mg m set) xs
 done:∀ s,s < i→s < 8→Fv xs s = Eo m s
 rest:∀ s,i ≤ s→s < 8→Fv xs s = 0
section
variable {m:Market} {set i:Nat} {gr n:Int} {xs xs':List Int} {tr':List Bool}
theorem Aia (ok:MarketOk m) (s:Nat):0 ≤ Eo m s∧Eo m s ≤ 1000000:=by
 unfold Eo
 cases hx:m.sales[s]? with
 | none=>simp
 | some x=>exact (ok.sale s x hx).1
theorem Ahn (ok:MarketOk m):EnO m set 0 (Oj m set 5):=by
 have hp:∀ s h,s < 8→h < 5→pt (Oj m set 5) s h = 0:=fun s h hs hh=>by
  unfold pt xg Oj
  rw [List.getD_eq_getElem?_getD,List.getElem?_append_left (by simp; omega),List.getElem?_replicate,if_pos (by omega)]; rfl
 have hl:∀ h,h < 5→lf (Oj m set 5) h = Mg m set h:=fun h hh=>by
  unfold lf xg Oj
  rw [List.getD_eq_getElem?_getD,List.getElem?_append_right (by simp),show 40 + h - (List.replicate 40 (0:Int)).length = h by simp,Qz hh]
  unfold Mg
  simp [hh]
 refine ⟨⟨Aiu,fun s h hs hh=>by rw [hp s h hs hh]; exact Int.le_refl _,fun h hh=>?_,fun s h hs hh h0=>absurd (hp s h hs hh) h0,fun h hh=>?_⟩,fun s h=>absurd h (Nat.not_lt_zero _),fun s _ hs=>Ii fun h hh=>hp s h hs hh⟩
 ·rw [hl h hh]; have:=Tp ok (h:Int); unfold Mg; split <;> omega
 ·rw [Ii fun s hs=>hp s h hs hh,hl h hh]; omega
theorem Aeq (H:EnO m set i xs) (hi:i < 8) {s:Sale} (hs:m.sales[i]? = some s):EnQ m set i s.grams xs :=
 ⟨H.ok,H.done,by rw [H.rest i (Nat.le_refl _) hi]; unfold Eo; rw [hs]; simp,fun s h1 h2=>H.rest s (by omega) h2⟩
theorem Aho (H:EnQ m set i gr xs) (h0:0 ≤ gr) (h1:¬ 0 < gr):EnO m set (i + 1) xs :=
 ⟨H.ok,fun s h2 h3=>by
  by_cases e:s = i
  ·subst e; have:=H.cur; omega
  ·exact H.done s (by omega) h3,fun s h2 h3=>H.rest s (by omega) h3⟩
theorem Ahp (H:EnQ m set i gr xs) (hi:i < 8) {tr:List Bool} (M:MoveP (Ds m) (Mg m set) i gr xs tr n xs' tr') (hn:n ≠ 0):EnQ m set i (gr - n) xs':=by
 obtain ⟨_,h2,h3,h4,_,_⟩:=M.res.resolve_left fun h'=>hn h'.1
 refine ⟨M.ok,fun s h5 h6=>?_,?_,fun s h5 h6=>?_⟩
 ·rw [h4 s h6 (by omega)]; exact H.done s h5 h6
 ·rw [h3]; have:=H.cur; omega
 ·rw [h4 s h6 (by omega)]; exact H.rest s h5 h6
theorem Adq:trB (List.replicate 8 false) = fun _=>false:=by
 funext s; unfold trB; rw [List.getD_eq_getElem?_getD,List.getElem?_replicate]; split <;> rfl
theorem Ahq (ok:MarketOk m) (H:EnQ m set i gr xs) (hi:i < 8) (hg:0 < gr) (M:MoveP (Ds m) (Mg m set) i gr xs (List.replicate 8 false) n xs' tr') (hn:n = 0):Fj m set = false:=by
 obtain ⟨_,_,h3⟩:=M.zero (by omega)
 rw [Adq] at h3
 have h4:=Ub (gr:=Eo m) H.ok hi M.own h3 (fun s hs=>by
  have:=Aia ok s
  by_cases e:s < i
  ·rw [H.done s e hs]; exact Int.le_refl _
  ·by_cases e2:s = i
   ·subst e2; have:=H.cur; omega
   ·rw [H.rest s (by omega) hs]; omega) (by have:=H.cur; omega)
 cases h:Fj m set with
 | false=>rfl
 | true=>exact absurd ((Yo ok set).2 h) h4
theorem Ala (ok:MarketOk m) (H:EnO m set i xs) (hi:m.sales.length ≤ i):Fj m set = true:=by
 refine (Yo ok set).1 (Xd H.ok fun s hs=>?_)
 by_cases e:s < i
 ·exact H.done s e hs
 ·rw [H.rest s (by omega) hs]; unfold Eo; rw [List.getElem?_eq_none (by omega)]
end
set_option maxHeartbeats 2000000 in
theorem Aad {ρ:Ro} {e:Env} {ty:TypeId} {x y:Operand} {vm vg:Value} {m:Market} {g:Arr5} {l:List Int} (hx:Af e x = vm) (hm:Val ρ vm (⟨m,g⟩:GMarket)) (hy:Af e y = vg) (hg:Val ρ vg (⟨l⟩:Arr5)) :
  ∃ w,(∃ vh vk vf vs g0 g1 g2 g3 g4,Val ρ vs m.sales∧w = .agg ([vh,vk,vf,vs,g0,g1,g2,g3,g4] ++ (List.replicate 40 0 ++ l).map (Value.int .i64)).toArray)∧Yld Tryd.prog ρ e (.build 188 [(0,x),(2,y)].toArray) ty w:=by
 obtain ⟨cs,⟨cm,cg,rfl,hm1,hg1⟩,rfl⟩:=hm
 obtain ⟨vh,vk,vf,vs,e1,_,_,_,hvs⟩:=Market.open_ (x:=m) (v:=.agg cm.toArray) ⟨cm,hm1,rfl⟩
 have e1':cm = [vh,vk,vf,vs]:=by simpa using e1
 have lg:cg.length = 5:=Dat.len hg1
 obtain ⟨cl,⟨hl1,hl2,_⟩,rfl⟩:=hg
 subst e1' hl1
 obtain ⟨b0,b1,b2,b3,b4,rfl⟩:∃ a b c d e,cg = [a,b,c,d,e]:=by
  match cg,lg with
  | [a,b,c,d,e],_=>exact ⟨a,b,c,d,e,rfl⟩
 obtain ⟨a0,a1,a2,a3,a4,rfl⟩:∃ a b c d e,l = [a,b,c,d,e]:=by
  match l,hl2 with
  | [a,b,c,d,e],_=>exact ⟨a,b,c,d,e,rfl⟩
 refine ⟨_,⟨vh,vk,vf,vs,b0,b1,b2,b3,b4,hvs,rfl⟩,?_⟩
 exact Dn (ns:=[9,40,5]) (vs:=[(0,.agg #[vh,vk,vf,vs,b0,b1,b2,b3,b4]),(2,.agg #[.int .i64 a0,.int .i64 a1,.int .i64 a2,.int .i64 a3,.int .i64 a4])]) (zc:=Arl) Biv Arp rfl ⟨⟨_,Ab Bkn,rfl⟩,⟨_,Ab Bjx,rfl⟩,⟨_,Ab Bit,rfl⟩,trivial⟩
  (EvB.map ⟨⟨rfl,hx⟩,⟨rfl,hy⟩,trivial⟩) ((Be (cs:=[vh,vk,vf,vs,b0,b1,b2,b3,b4]) rfl rfl (Nat.le_of_ble_eq_true rfl)).trans ((Be (cs:=[.int .i64 a0,.int .i64 a1,.int .i64 a2,.int .i64 a3,.int .i64 a4]) rfl rfl (Nat.le_of_ble_eq_true rfl)).trans rfl))
end
section
set_option maxHeartbeats 1000000
open Go
set_option maxHeartbeats 2000000 in
theorem Agz {mn:Bool} {X:Frame→List Frame→Ro→Own→Cy→Prop} {ρ:Ro} {σ:Own} {m:Market} {vg:Value} {set:Nat} (rg:Val ρ vg (⟨m,⟨En m⟩⟩:GMarket)) (ok:MarketOk m) (hset:set < 32):CallsH (CX mn X) 74 #[vg,(.int .u64 ((set:Int)))] ρ σ (rP ρ σ (.bool (Fj m set))):=by
 have hn8:=ok.nsales
 have hh5:=Hn ok
 refine Bh (n:=55) (args:=[vg,(.int .u64 ((set:Int)))]) [4] Tryd.func74 rfl rfl rfl rfl fun Q hret hnor=>w_q rfl rfl fun K1 k1=>Arv (Eb (v:=vg) rfl fun k2=>?_)
 refine Bb (a:=(⟨m,⟨En m⟩⟩:GMarket)) rg fun ρ2 l2 r2=>Lo (.bool (false)) (Arx rfl rfl k1 fun K3 k3=>Arw (Ax Wk rfl r2) fun v4 r4=>Arw (Ay GMarket.f_gives Bjk rfl rfl Ads (by decide) rfl r2) fun v5 r5=>Arw (Ax Ads rfl r5) fun v6 r6=>Arw (Aad (ty:=188) (l:=En m) rfl r4 rfl r6) fun w7 hb7=>?_)
 obtain ⟨vh_7,vk_7,vf_7,vs_7,g0_7,g1_7,g2_7,g3_7,g4_7,rsv,hb7⟩:=hb7
 subst hb7
 refine Arv (Eb (v:=(.agg ([vh_7,vk_7,vf_7,vs_7,g0_7,g1_7,g2_7,g3_7,g4_7] ++ (List.replicate 40 (0:Int) ++ En m).map (Value.int .i64)).toArray)) rfl fun k8=>?_)
 have hxl:(List.replicate 40 (0:Int) ++ En m).length = 45:=by simp [En]
 refine Lo (.pointer (some ⟨k8,0,none⟩)) (Ary rfl rfl k3 fun K9 K10 k9 k10=>Asf (iV (0)) (l_k k10 (Ao (Cc (fun mm ee dd ρ' σ'=>∃ (h:Nat) (rx11_5:List Int),(5 - h) = mm∧[] = dd∧ρ2 = ρ'∧((k8,oC ([vh_7,vk_7,vf_7,vs_7,g0_7,g1_7,g2_7,g3_7,g4_7] ++ rx11_5.map (Value.int .i64)).toArray 188) :: σ) = σ'∧ee 1 = (.int .u64 ((set:Int)))∧ee 2 = (.pointer (some ⟨k2,0,none⟩))∧ee 5 = (.pointer (some ⟨k8,0,none⟩))∧ee 16 = (iV ((h:Int)))∧(h ≤ 5)∧rx11_5 = Oj m set h∧rx11_5.length = 45∧True) (m:=_) ⟨0,(List.replicate 40 (0:Int) ++ En m),rfl,rfl,rfl,rfl,rfl,rfl,rfl,rfl,(Nat.zero_le _),(Anm),hxl,trivial⟩ ?_))))
 rintro m11 e11 _ _ _ ⟨h,rx11_5,rfl,rfl,rfl,rfl,h11_1,h11_2,h11_5,h11_16,p11_0,RX11_5,RL11_5,_⟩
 refine w_q rfl rfl fun K12 k12=>l_v (Da h11_16 rfl) (Asa k12 fun K13 k13=>Asg (t:=decide ((h:Int) < 5)) rfl (fun b14=>?_) (fun b14=>?_))
 ·have q14:=of_decide_eq_true b14
  refine Al (k13 _ _ _ _ ?_)
  refine Ai fun K15 k15=>Ao (w_q rfl rfl fun K16 k16=>l_v (Ah (v:=(iV ((h:Int)))) h11_16) (Lo (iV ((h:Int))) (Arx rfl rfl k16 fun K17 k17=>l_v (Ah (v:=(.int .u64 ((set:Int)))) h11_1) (Asf (iV ((h:Int))) (l_v (Lc (p:=set) (q:=h) rfl rfl rfl (by omega)) (l_v (Nv (p:=(set >>> h)) (q:=1) rfl rfl (Nl (by omega))) (l_v (Ek rfl rfl) (l_k k17 (Asg (t:=((((set >>> h) &&& 1):Nat):Int) == 1) rfl (fun b18=>?_) (fun b18=>?_))))))))))
  ·have hbt19:=bitM.symm.trans b18
   rw [Pz,← Ez] at hbt19
   have q18:=Jr b18
   refine Ag rfl rfl (l_v (Ah (v:=(.pointer (some ⟨k8,0,none⟩))) h11_5) (Asf (iV ((h:Int))) (l_v (Ck rfl) (l_v (Cb (off':=49) Biv rfl rfl ⟨_,Ab Bit,rfl⟩ (by decide) rfl rfl) (l_v (Cq (k':=1) h Biq ⟨_,Ab Bhx,rfl⟩ rfl (q:=(h:Int)) rfl rfl (by omega) (off':=(9 + (40 + h))) (by omega)) (Cx rfl (Nq (j:=0) (f:=(Value.int .i64)) (pc:=[vh_7,vk_7,vf_7,vs_7,g0_7,g1_7,g2_7,g3_7,g4_7]) (i:=(40 + h)) (bv:=8000000) ⟨_,Ab Bhx,rfl⟩ rfl rfl rfl rfl rfl (by rw [RL11_5]; omega) ?_)))))))
   refine l_k k15 (Ag rfl rfl (l_v (Br h11_16 rfl (z:=(((h + 1):Nat):Int)) wrE) (Asf (iV ((((h + 1):Nat):Int))) (Ac ?_))))
   refine ⟨_,?_,((h + 1)),(rx11_5.set ((40 + h)) 8000000),rfl,rfl,rfl,rfl,h11_1,h11_2,h11_5,rfl,(by omega),(by rw [RX11_5]; exact Ano (by omega) hbt19),(List.length_set.trans RL11_5),trivial⟩
   omega
  have hbt20:=bitM.symm.trans b18
  rw [Pz,← Ez] at hbt20
  have q18:=Jq b18
  refine Al (k15 _ _ _ _ ?_)
  refine Ag rfl rfl (l_v (Br h11_16 rfl (z:=(((h + 1):Nat):Int)) wrE) (Asf (iV ((((h + 1):Nat):Int))) (Ac ?_)))
  refine ⟨_,?_,((h + 1)),rx11_5,rfl,rfl,rfl,rfl,h11_1,h11_2,h11_5,rfl,(by omega),(by rw [RX11_5]; exact Ann hbt20),RL11_5,trivial⟩
  omega
 have q14:=of_decide_eq_false b14
 refine Bx (k9 _ _ _ _ ?_)
 refine Asb rfl rfl fun K21 K22 k21 k22=>Arw (Ay GMarket.f_m Bjk rfl rfl Ln (by decide) h11_2 r2) fun v23 r23=>Arw (Ay Market.f_sales Bia rfl rfl Qn (by decide) rfl r23) fun v24 r24=>Arw (Ax Qn rfl r24) fun v25 r25=>?_
 have g26:=Bmn r25
 refine l_v (Ci (el:=51) Bif rfl r25) (Asf (iV (0)) (l_k k22 (Ao (Cc (fun mm ee dd ρ' σ'=>∃ (i:Nat) (xq:List Int) (rx27_5:List Int),(m.sales.length - i) = mm∧[] = dd∧ρ2 = ρ'∧((k8,oC ([vh_7,vk_7,vf_7,vs_7,g0_7,g1_7,g2_7,g3_7,g4_7] ++ rx27_5.map (Value.int .i64)).toArray 188) :: σ) = σ'∧ee 32 = v25∧ee 33 = (iV (((m.sales.length:Nat):Int)))∧ee 5 = (.pointer (some ⟨k8,0,none⟩))∧ee 34 = (iV ((i:Int)))∧(i ≤ m.sales.length)∧(EnO m set i xq)∧rx27_5 = xq∧rx27_5.length = 45∧True) (m:=_) ⟨0,rx11_5,rx11_5,rfl,rfl,rfl,rfl,rfl,rfl,h11_5,rfl,(Nat.zero_le _),(by rw [RX11_5,show h = 5 by omega]; exact Ahn ok),(rfl),RL11_5,trivial⟩ ?_))))
 rintro m27 e27 _ _ _ ⟨i,xq,rx27_5,rfl,rfl,rfl,rfl,h27_32,h27_33,h27_5,h27_34,p27_0,p27_1,RX27_5,RL27_5,_⟩
 subst RX27_5
 refine w_q rfl rfl fun K28 k28=>l_v (Da h27_34 h27_33) (Asa k28 fun K29 k29=>Asg (t:=decide ((i:Int) < ((m.sales.length:Nat):Int))) rfl (fun b30=>?_) (fun b30=>?_))
 ·have q30:=of_decide_eq_true b30
  refine Al (k29 _ _ _ _ ?_)
  refine Ai fun K31 k31=>Ao (w_q rfl rfl fun K32 k32=>l_v (Ah (v:=(iV ((i:Int)))) h27_34) ?_)
  obtain ⟨a34,ha34⟩:=Ed (xs:=m.sales) (i:=i) (by omega)
  have gs_a34:=ok.sale _ _ ha34
  refine Arw (Ch i Bif Up h27_32 r25 (q:=(i:Int)) h27_34 rfl ha34) fun v33 r33=>Arw (Ax Up rfl r33) fun v35 r35=>Arv (Ct Agb fun k36=>?_)
  refine Lo (iV ((i:Int))) (Cx rfl (Dv (v:=v35) (a:=a34) (c:=Akd) Up rfl rfl r35 rfl ?_))
  refine Bb (a:=a34) r35 fun ρ37 l37 r37=>?_
  replace rsv:=Bmo l37 rsv
  refine Arx rfl rfl k32 fun K38 k38=>Arw (Ay Sale.f_grams Bin rfl rfl ty3 (by decide) rfl r37) fun v39 r39=>?_
  have ⟨g40a,g40b⟩:=At.rng r39
  refine l_v (Bc ty3 rfl r39) (Lo (iV (a34.grams)) (l_k k38 (Ao (Cc (fun mm ee dd ρ' σ'=>∃ (gr:Int) (xq:List Int) (rx41_5:List Int),(gr.toNat) = mm∧[] = dd∧ρ37 = ρ'∧((k8,oC ([vh_7,vk_7,vf_7,vs_7,g0_7,g1_7,g2_7,g3_7,g4_7] ++ rx41_5.map (Value.int .i64)).toArray 188) :: σ) = σ'∧ee 7 = (iV ((i:Int)))∧ee 32 = v25∧ee 33 = (iV (((m.sales.length:Nat):Int)))∧ee 34 = (iV ((i:Int)))∧ee 5 = (.pointer (some ⟨k8,0,none⟩))∧ee 9 = (iV (gr))∧(EnQ m set i gr xq)∧(0 ≤ gr)∧(gr ≤ 1000000)∧rx41_5 = xq∧rx41_5.length = 45∧True) (m:=_) ⟨a34.grams,rx27_5,rx27_5,rfl,rfl,rfl,rfl,rfl,h27_32,h27_33,h27_34,h27_5,rfl,(Aeq p27_1 (by omega) ha34),(by omega),(by omega),(rfl),RL27_5,trivial⟩ ?_))))
  rintro m41 e41 _ _ _ ⟨gr,xq,rx41_5,rfl,rfl,rfl,rfl,h41_7,h41_32,h41_33,h41_34,h41_5,h41_9,p41_0,p41_1,p41_2,RX41_5,RL41_5,_⟩
  subst RX41_5
  refine Asb rfl rfl fun K42 K43 k42 k43=>l_v (Ah (v:=(iV (gr))) h41_9) (l_v (Gl rfl rfl) (l_k k43 (Asg (t:=decide (gr > 0)) rfl (fun b44=>?_) (fun b44=>?_))))
  ·have q44:=of_decide_eq_true b44
   refine Al (k42 _ _ _ _ ?_)
   refine Ao (w_q rfl rfl fun K45 k45=>l_v (Ah (v:=(.pointer (some ⟨k8,0,none⟩))) h41_5) (l_v (Ah (v:=(iV ((i:Int)))) h41_7) (l_v (Ah (v:=(iV (gr))) h41_9) (l_v (Afx Blr Arq (zc:=(List.replicate 8 false).map Value.bool) rfl ⟨_,Ab Biw,rfl⟩) (Arv (Eb (v:=(.agg ((List.replicate 8 false).map Value.bool).toArray)) rfl fun k46=>?_))))))
   refine Bj (Bmj Arz) (Bj (Bmj Arz) (Arv (Cm (vs:=[(.pointer (some ⟨k8,0,none⟩)),(iV ((i:Int))),(iV (gr)),(.pointer (some ⟨k46,0,none⟩))]) (Anb (sale:=i) (g:=gr) (cap:=Mg m set) (xs:=rx41_5) (tr:=List.replicate 8 false) rsv ok (Akt ok set) p41_0.ok (by omega) (by omega) (by omega) rfl (by rw [Adq])) Tryd.func91 rfl rfl ⟨rfl,rfl,rfl,rfl,trivial⟩ fun w47 ρ47 σ47 hc47=>?_)))
   obtain ⟨hr47,n47,ys47,us47,hw47,hs47,MP47⟩:=hc47
   replace hr47:=hr47.symm; subst hr47 hs47 hw47
   have hn47:=MP47.n0
   have hl47:=MP47.le
   refine Lo (iV (n47)) (Ary rfl rfl k45 fun K48 K49 k48 k49=>Asf (iV (n47)) (l_v (Ek rfl rfl) (l_k k49 (Asg (t:=n47 == 0) rfl (fun b50=>?_) (fun b50=>?_)))))
   ·have q50:=Jr b50
    refine w_q rfl rfl fun K51 k51=>Lo (.bool (false)) (l_k k51 (Aj Bmh (Aj Bmh (Aj (Bmi (Bmm l2 l37)) (Aq (hret _ _ _ ⟨rfl,rfl,eT (.bool (false)) ?_⟩))))))
    rw [Ahq ok p41_0 (by omega) (by omega) MP47 q50]
   have q50:=Jq b50
   refine Al (k48 _ _ _ _ ?_)
   refine Ag rfl rfl (l_v (Ah (v:=(iV (gr))) h41_9) (Asf (iV (n47)) (l_v (Ou rfl rfl (z:=(gr - n47)) (Bo (by rfl) (by omega) (by omega))) (Lo (iV ((gr - n47))) (Bj Bmh (Ac ?_))))))
   refine ⟨_,?_,((gr - n47)),(ys47),ys47,rfl,rfl,rfl,rfl,h41_7,h41_32,h41_33,h41_34,h41_5,rfl,(Ahp p41_0 (by omega) MP47 q50),(by omega),(by omega),(rfl),MP47.ok.len,trivial⟩
   have:=q50; omega
  have q44:=of_decide_eq_false b44
  refine Bx (k31 _ _ _ _ ?_)
  refine Ag rfl rfl (l_v (Br h41_34 rfl (z:=(((i + 1):Nat):Int)) wrE) (Asf (iV ((((i + 1):Nat):Int))) (Bj (Bmi l37) (Ac ?_))))
  refine ⟨_,?_,((i + 1)),(rx41_5),rx41_5,rfl,rfl,rfl,rfl,h41_32,h41_33,h41_5,rfl,(by omega),(Aho p41_0 p41_1 q44),(rfl),RL41_5,trivial⟩
  omega
 have q30:=of_decide_eq_false b30
 refine Bx (k21 _ _ _ _ ?_)
 refine w_q rfl rfl fun K52 k52=>Lo (.bool (true)) (l_k k52 (Aj Bmh (Aj (Bmi l2) (Aq (hret _ _ _ ⟨rfl,rfl,eT (.bool (true)) ?_⟩)))))
 rw [Ala ok p27_1 (by omega)]
end
section
set_option maxHeartbeats 1000000
open Go
def uws (xs:List Nat):List UW:=xs.map UW.mk
theorem Xm {xs:List Nat}:(uws xs).length = xs.length:=by simp [uws]
theorem Amc {xs:List Nat} {i:Nat} {a:UW} (h:(uws xs)[i]? = some a):∃ t,xs[i]? = some t∧a = UW.mk t:=by
 unfold uws at h
 rw [List.getElem?_map] at h
 obtain ⟨t,h1,rfl⟩:=Option.map_eq_some_iff.1 h
 exact ⟨t,h1,rfl⟩
theorem Afn {α β:Type} {f:α→β} {xs:List α} {i:Nat} {t:α} (h:xs[i]? = some t):xs.map f = (xs.take i).map f ++ f t :: (xs.drop (i + 1)).map f:=by
 obtain ⟨h1,h2⟩:=List.getElem?_eq_some_iff.1 h
 have e:xs = xs.take i ++ t :: xs.drop (i + 1):=by
  rw [← h2,← List.drop_eq_getElem_cons h1,List.take_append_drop]
 have e2:=congrArg (List.map f) e
 rw [List.map_append,List.map_cons] at e2
 exact e2
theorem Ajk {α β:Type} {f:α→β} {xs:List α} {i:Nat} {t:α} (h:xs[i]? = some t):(xs.take (i + 1)).map f = (xs.take i).map f ++ [f t]:=by
 rw [List.take_add_one,h,List.map_append]; rfl
theorem Ain:(List.range 32).all (fun x=>(let a:=((x >>> 1) &&& 6148914691236517205) + (x &&& 6148914691236517205); let b:=((a >>> 2) &&& 3689348814741910323) + (a &&& 3689348814741910323); let c:=((b >>> 4) + b) &&& 1085102592571150095; let d:=c + (c >>> 8); let e:=d + (d >>> 16); let f:=e + (e >>> 32); f &&& 127) == De x) = true:=by decide +kernel
theorem Aln {x a b c d e f:Nat} (hx:x < 32) (ha:a = ((x >>> 1) &&& 6148914691236517205) + (x &&& 6148914691236517205)) (hb:b = ((a >>> 2) &&& 3689348814741910323) + (a &&& 3689348814741910323)) (hc:c = ((b >>> 4) + b) &&& 1085102592571150095) (hd:d = c + (c >>> 8)) (he:e = d + (d >>> 16)) (hf:f = e + (e >>> 32)):f &&& 127 = De x:=by
 have:=List.all_eq_true.1 Ain x (List.mem_range.2 hx)
 subst ha hb hc hd he hf
 simpa using this
variable {mn:Bool} {X:Frame→List Frame→Ro→Own→Cy→Prop} {ρ:Ro} {σ:Own}
theorem Ahf {x:Nat} (hx:x < 32):CallsH (CX mn X) 76 #[(.int .u64 ((x:Int)))] ρ σ (rP ρ σ (iV (((De x:Nat):Int)))):=by
 refine Bh (n:=35) (args:=[(.int .u64 ((x:Int)))]) [2] Tryd.func76 rfl rfl rfl rfl fun Q hret hnor=>w_q rfl rfl fun K1 k1=>Lo (iV (0)) (Arx rfl rfl k1 fun K2 k2=>Asf (.int .u64 ((x:Int))) ?_)
 have hn3:=Nat.shiftRight_le x 1
 refine l_v (Lc (p:=x) (q:=1) rfl rfl rfl (by omega)) ?_
 have hn4:(x >>> 1) &&& 6148914691236517205 ≤ (x >>> 1):=Nat.and_le_left
 refine l_v (Nv (p:=(x >>> 1)) (q:=6148914691236517205) rfl rfl (by omega)) (Asf (.int .u64 ((x:Int))) ?_)
 have hn5:x &&& 6148914691236517205 ≤ x:=Nat.and_le_left
 refine l_v (Nv (p:=x) (q:=6148914691236517205) rfl rfl (by omega)) (l_v (Br rfl rfl (z:=(((((x >>> 1) &&& 6148914691236517205) + (x &&& 6148914691236517205)):Nat):Int)) ((Ev (by omega) (by omega)).trans (by push_cast; rfl))) ?_)
 obtain ⟨a,ha_⟩:∃ a,a = (((x >>> 1) &&& 6148914691236517205) + (x &&& 6148914691236517205)):=⟨_,rfl⟩
 refine l_v (Cp (v:=(.int .u64 (a:Int))) ((show _ = Value.int .u64 ((((((x >>> 1) &&& 6148914691236517205) + (x &&& 6148914691236517205))):Nat):Int) from rfl).trans (by rw [ha_]))) (Arx rfl rfl k2 fun K6 k6=>Asf (.int .u64 ((a:Int))) ?_)
 have hn7:=Nat.shiftRight_le a 2
 refine l_v (Lc (p:=a) (q:=2) rfl rfl rfl (by omega)) ?_
 have hn8:(a >>> 2) &&& 3689348814741910323 ≤ (a >>> 2):=Nat.and_le_left
 refine l_v (Nv (p:=(a >>> 2)) (q:=3689348814741910323) rfl rfl (by omega)) (Asf (.int .u64 ((a:Int))) ?_)
 have hn9:a &&& 3689348814741910323 ≤ a:=Nat.and_le_left
 refine l_v (Nv (p:=a) (q:=3689348814741910323) rfl rfl (by omega)) (l_v (Br rfl rfl (z:=(((((a >>> 2) &&& 3689348814741910323) + (a &&& 3689348814741910323)):Nat):Int)) ((Ev (by omega) (by omega)).trans (by push_cast; rfl))) ?_)
 obtain ⟨b,hb_⟩:∃ b,b = (((a >>> 2) &&& 3689348814741910323) + (a &&& 3689348814741910323)):=⟨_,rfl⟩
 refine l_v (Cp (v:=(.int .u64 (b:Int))) ((show _ = Value.int .u64 ((((((a >>> 2) &&& 3689348814741910323) + (a &&& 3689348814741910323))):Nat):Int) from rfl).trans (by rw [hb_]))) (Arx rfl rfl k6 fun K10 k10=>Asf (.int .u64 ((b:Int))) ?_)
 have hn11:=Nat.shiftRight_le b 4
 refine l_v (Lc (p:=b) (q:=4) rfl rfl rfl (by omega)) (Asf (.int .u64 ((b:Int))) (l_v (Br rfl rfl (z:=((((b >>> 4) + b):Nat):Int)) ((Ev (by omega) (by omega)).trans (by push_cast; rfl))) ?_))
 have hn12:((b >>> 4) + b) &&& 1085102592571150095 ≤ ((b >>> 4) + b):=Nat.and_le_left
 refine l_v (Nv (p:=((b >>> 4) + b)) (q:=1085102592571150095) rfl rfl (by omega)) ?_
 obtain ⟨c,hc_⟩:∃ c,c = (((b >>> 4) + b) &&& 1085102592571150095):=⟨_,rfl⟩
 refine l_v (Cp (v:=(.int .u64 (c:Int))) ((show _ = Value.int .u64 ((((((b >>> 4) + b) &&& 1085102592571150095)):Nat):Int) from rfl).trans (by rw [hc_]))) (Arx rfl rfl k10 fun K13 k13=>Asf (.int .u64 ((c:Int))) (Asf (.int .u64 ((c:Int))) ?_))
 have hn14:=Nat.shiftRight_le c 8
 refine l_v (Lc (p:=c) (q:=8) rfl rfl rfl (by omega)) (l_v (Br rfl rfl (z:=(((c + (c >>> 8)):Nat):Int)) ((Ev (by omega) (by omega)).trans (by push_cast; rfl))) ?_)
 obtain ⟨d,hd_⟩:∃ d,d = (c + (c >>> 8)):=⟨_,rfl⟩
 refine l_v (Cp (v:=(.int .u64 (d:Int))) ((show _ = Value.int .u64 ((((c + (c >>> 8))):Nat):Int) from rfl).trans (by rw [hd_]))) (Arx rfl rfl k13 fun K15 k15=>Asf (.int .u64 ((d:Int))) (Asf (.int .u64 ((d:Int))) ?_))
 have hn16:=Nat.shiftRight_le d 16
 refine l_v (Lc (p:=d) (q:=16) rfl rfl rfl (by omega)) (l_v (Br rfl rfl (z:=(((d + (d >>> 16)):Nat):Int)) ((Ev (by omega) (by omega)).trans (by push_cast; rfl))) ?_)
 obtain ⟨e,he_⟩:∃ e,e = (d + (d >>> 16)):=⟨_,rfl⟩
 refine l_v (Cp (v:=(.int .u64 (e:Int))) ((show _ = Value.int .u64 ((((d + (d >>> 16))):Nat):Int) from rfl).trans (by rw [he_]))) (Arx rfl rfl k15 fun K17 k17=>Asf (.int .u64 ((e:Int))) (Asf (.int .u64 ((e:Int))) ?_))
 have hn18:=Nat.shiftRight_le e 32
 refine l_v (Lc (p:=e) (q:=32) rfl rfl rfl (by omega)) (l_v (Br rfl rfl (z:=(((e + (e >>> 32)):Nat):Int)) ((Ev (by omega) (by omega)).trans (by push_cast; rfl))) ?_)
 obtain ⟨f,hf_⟩:∃ f,f = (e + (e >>> 32)):=⟨_,rfl⟩
 refine l_v (Cp (v:=(.int .u64 (f:Int))) ((show _ = Value.int .u64 ((((e + (e >>> 32))):Nat):Int) from rfl).trans (by rw [hf_]))) (Arx rfl rfl k17 fun K19 k19=>Asf (.int .u64 ((f:Int))) (l_v (Acf (p:=(f:Int)) (z:=(f:Int)) Tryd.underlying174 Bib rfl wrR) ?_))
 have hn20:f &&& 127 ≤ f:=Nat.and_le_left
 refine l_v (Qs (p:=f) (q:=127) rfl rfl (by omega)) (Lo (iV ((((f &&& 127):Nat):Int))) (l_k k19 (Aq (hret _ _ _ ⟨rfl,rfl,eT (iV ((((f &&& 127):Nat):Int))) ?_⟩))))
 rw [Aln hx ha_ hb_ hc_ hd_ he_ hf_]
theorem Anc {x:Nat} (hx:x < 32):CallsH (CX mn X) 50 #[(.int .u64 ((x:Int)))] ρ σ (rP ρ σ (iV (((De x:Nat):Int)))):=by
 refine Bh (n:=8) (args:=[(.int .u64 ((x:Int)))]) [2] Tryd.func50 rfl rfl rfl rfl fun Q hret hnor=>w_q rfl rfl fun K1 k1=>Lo (iV (0)) (Asa k1 fun K2 k2=>Cg rfl rfl (Al (k2 _ _ _ _ ?_)))
 refine w_q rfl rfl fun K3 k3=>Asf (.int .u64 ((x:Int))) (Arv (Bm (Ahf (x:=x) (by omega)) Tryd.func76 rfl rfl ⟨rfl,trivial⟩ ?_))
 refine Lo (iV ((((De x):Nat):Int))) (l_k k3 (Aq (hret _ _ _ ⟨rfl,rfl,eT (iV ((((De x):Nat):Int))) ?_⟩)))
 rfl
theorem Alg {xs:List Nat} {ρ₀:Ro} {vc:Value} (hc:At ρ₀ vc (uws xs)):IterF (.func (.func 77) #[] #[vc]) ρ₀ (xs.map (fun x:Nat=>Value.int .u64 (x:Int))):=by
 refine ⟨77,_,[vc],rfl,Tryd.func77,rfl,rfl,?_⟩
 intro mn X l I ρ σ hle hmono hI hy
 replace hc:=hc.mono hle
 have hml:=Xm (xs:=xs)
 refine Bh (n:=16) (args:=[(.func (.yield l) #[] #[]),vc]) [] Tryd.func77 rfl rfl rfl rfl fun Q hret hnor=>w_q rfl rfl fun K1 k1=>Arw (Ax Aqb rfl hc) fun v2 r2=>?_
 have g3:=Bmn r2
 refine l_v (Ci (el:=128) Bjc rfl r2) (Asf (iV (0)) (l_k k1 (Ao (Cc (fun mm ee dd ρ' σ'=>∃ (i:Nat) (σb4:Own),((uws xs).length - i) = mm∧[] = dd∧Ro.le ρ ρ'∧σb4 = σ'∧ee 0 = (.func (.yield l) #[] #[])∧ee 5 = v2∧ee 6 = (iV ((((uws xs).length:Nat):Int)))∧ee 7 = (iV ((i:Int)))∧(i ≤ (uws xs).length)∧I ((xs.take i).map (fun x:Nat=>Value.int .u64 (x:Int))) ρ' σb4∧True) (m:=_) ⟨0,σ,rfl,rfl,Bml,rfl,rfl,rfl,rfl,rfl,(Nat.zero_le _),hI,trivial⟩ ?_))))
 rintro m4 e4 _ ρ4 _ ⟨i,σb4,rfl,rfl,l4,rfl,h4_0,h4_5,h4_6,h4_7,p4_0,IB4,_⟩
 replace r2:=Bmo l4 r2
 refine w_q rfl rfl fun K5 k5=>l_v (Da h4_7 h4_6) (Asa k5 fun K6 k6=>Asg (t:=decide ((i:Int) < (((uws xs).length:Nat):Int))) rfl (fun b7=>?_) (fun b7=>?_))
 ·have q7:=of_decide_eq_true b7
  refine Al (k6 _ _ _ _ ?_)
  refine Ai fun K8 k8=>Ao (w_q rfl rfl fun K9 k9=>?_)
  obtain ⟨a11,ha11⟩:=Ed (xs:=uws xs) (i:=i) (by omega)
  obtain ⟨t12,ht12,hp12⟩:=Amc ha11
  subst hp12
  refine Arw (Ch i Bjc Zt h4_5 r2 (q:=(i:Int)) h4_7 rfl ha11) fun v10 r10=>l_v (Aga Zt rfl r10) (Lo (.int .u64 ((t12:Int))) (Arx rfl rfl k9 fun K14 k14=>l_v (Ah (v:=(.func (.yield l) #[] #[])) h4_0) (Asf (.int .u64 ((t12:Int))) (Arv (Xr (v:=(.int .u64 ((t12:Int)))) rfl rfl (hy ((xs.take i).map (fun x:Nat=>Value.int .u64 (x:Int))) (.int .u64 ((t12:Int))) ((xs.drop (i + 1)).map (fun x:Nat=>Value.int .u64 (x:Int))) _ _ (Afn ht12) l4 IB4) fun w15 ρ15 σ15 hc15=>?_)))))
  obtain ⟨hw15,l15,I15⟩:=hc15
  subst hw15
  refine l_v (Iy rfl) (l_k k14 (Cg rfl (not_t rfl) (Al (k8 _ _ _ _ ?_))))
  refine Ag rfl rfl (l_v (Br h4_7 rfl (z:=(((i + 1):Nat):Int)) wrE) (Asf (iV ((((i + 1):Nat):Int))) (Ac ?_)))
  refine ⟨_,?_,((i + 1)),σ15,rfl,rfl,(Bmm l4 l15),rfl,h4_0,h4_5,h4_6,rfl,(by omega),(Yp (Ajk ht12) I15),trivial⟩
  omega
 have q7:=of_decide_eq_false b7
 refine Bx (hnor _ _ _ (⟨l4,?_⟩))
 have hz:=IB4
 rw [List.take_of_length_le (by omega)] at hz; exact hz
theorem Agw {xs:List Nat} {va:Value} (ra:Val ρ va (uws xs)):CallsH (CX mn X) 52 #[va] ρ σ (fun w ρ' σ'=>Ro.le ρ ρ'∧σ' = σ∧IterF w ρ' (xs.map (fun x:Nat=>Value.int .u64 (x:Int)))):=by
 refine Bh (n:=4) (args:=[va]) [2] Tryd.func52 rfl rfl rfl rfl fun Q hret hnor=>w_q rfl rfl fun K1 k1=>Arv (Eb (v:=va) rfl fun k2=>?_)
 refine Bb (a:=uws xs) ra fun ρ2 l2 r2=>Lo .nilFunc (Arx rfl rfl k1 fun K3 k3=>l_v (Il (fn:=.func 77) (caps:=[.tmp 1]) (vs:=[(.pointer (some ⟨k2,0,none⟩))]) ⟨rfl,trivial⟩) (Lo (.func (.func 77) #[] #[(.pointer (some ⟨k2,0,none⟩))]) (l_k k3 (Aq (hret _ _ _ (⟨l2,rfl,?_⟩))))))
 exact Alg r2
theorem Apv {k:Nat} {ρ₀:Ro} {vc:Value} (hc:At ρ₀ vc (k:Int)) (hk:k < 64):PredR ρ₀ (.func (.func 53) #[] #[vc]) (fun x:UW=>x.n < 65536) (fun x:UW=>Cu x.n k):=by
 refine ⟨53,_,[vc],rfl,Tryd.func53,rfl,rfl,?_⟩
 intro mn X ρ σ v x hle hD hv
 replace hc:=hc.mono hle
 obtain ⟨s⟩:=x
 obtain rfl:=Rq.1 hv
 simp only at hD
 refine Bh (n:=9) (args:=[(.int .u64 ((s:Int))),vc]) [3] Tryd.func53 rfl rfl rfl rfl fun Q hret hnor=>w_q rfl rfl fun K1 k1=>Lo (.bool (false)) (Arx rfl rfl k1 fun K2 k2=>Asf (.int .u64 ((s:Int))) ?_)
 have ⟨g3a,g3b⟩:=At.rng hc
 refine l_v (Bc ty3 rfl hc) (l_v (Lc (p:=s) (q:=k) rfl rfl rfl (by omega)) (l_v (Nv (p:=(s >>> k)) (q:=1) rfl rfl (Nl (by omega))) (l_v (Ek rfl rfl) (Lo (.bool (((((s >>> k) &&& 1):Nat):Int) == 1)) (l_k k2 (Aq (hret _ _ _ ⟨rfl,rfl,eT (.bool (((((s >>> k) &&& 1):Nat):Int) == 1)) ?_⟩)))))))
 rw [bitA]
theorem Ael {xs:List Nat} {vi vp:Value} {p:UW→Bool} {q:Nat→Bool} (hi:IterF vi ρ (xs.map (fun x:Nat=>Value.int .u64 (x:Int)))) (hp:PredR ρ vp (fun x:UW=>x.n < 65536) p) (hx:∀ x ∈ xs,x < 65536) (hq:∀ x:Nat,p (UW.mk x) = q x):CallsH (CX mn X) 51 #[vi,vp] ρ σ (rP ρ σ (iV (Ga q xs))):=by
 refine Nz (n:=20) (args:=[vi,vp]) [4] Tryd.func51 rfl rfl rfl rfl fun Q hret hnor=>w_q rfl rfl fun K1 k1=>Arv (Eb (v:=vp) rfl fun k2=>?_)
 refine Bb (a:=(RawV.mk vp)) (Sp hp.single) fun ρ2 l2 r2=>?_
 replace hi:=IterF.mono l2 hi
 replace hp:=PredR.mono l2 hp
 refine Lo (iV (0)) (Arx rfl rfl k1 fun K3 k3=>Arv (Ct zr4 fun k4=>?_))
 refine Arv (Ct zr4 fun k5=>?_)
 refine Cx rfl (Cz (j:=1) (v:=(.bool (false))) ⟨_,Ab Biw,rfl⟩ rfl rfl rfl rfl (Nat.le_of_ble_eq_true rfl) ?_)
 refine Cx rfl (Cz (j:=0) (v:=(.bool (false))) ⟨_,Ab Biw,rfl⟩ rfl rfl rfl rfl (Nat.le_of_ble_eq_true rfl) ?_)
 refine Ary rfl rfl k3 fun K6 K7 k6 k7=>Asf vi (l_k k7 (Ao (Hs (ys:=(xs).map (fun x:Nat=>Value.int .u64 (x:Int))) (fun pre ρ' τ=>∃ (l1:List Nat) (so:Bool) (no:Bool),pre = l1.map (fun x:Nat=>Value.int .u64 (x:Int))∧((k5,oC #[(.bool (no))] 4) :: ((k4,oC #[(.bool (so))] 4) :: σ)) = τ∧(so = l1.any q)∧(no = l1.any (fun x=>!q x))∧True) rfl rfl (Nat.le_of_ble_eq_true rfl) rfl hi ?_ ?_ ?_ ?_)))
 ·exact fun _ _ _ _ _ h=>h
 ·exact ⟨[],false,false,rfl,rfl,rfl,rfl,trivial⟩
 ·rintro l8_ _ x8 post8 ρ8 _ hys8 l8 ⟨l1,so,no,rfl,rfl,p8_0,p8_1,_⟩ pfx8
  obtain ⟨a8,l2_8,hl8,rfl⟩:=Ly Apq hys8
  replace hp:=PredR.mono l8 hp
  replace r2:=Bmg l8 r2
  refine Aj (σ':=((k5,Res.obj (Obj.cells #[(.bool (no))] 4 (0,0))) :: ((k4,Res.obj (Obj.cells #[(.bool (so))] 4 (0,0))) :: (pfx8 ++ σ)))) (Bmj (by first | exact Fe pfx8 ([(k5,Res.obj (Obj.cells #[(.bool (no))] 4 (0,0))),(k4,Res.obj (Obj.cells #[(.bool (so))] 4 (0,0)))]) σ | simpa only [List.append_assoc,List.cons_append,List.nil_append,List.set_cons_zero] using Fe pfx8 ([(k5,Res.obj (Obj.cells #[(.bool (no))] 4 (0,0))),(k4,Res.obj (Obj.cells #[(.bool (so))] 4 (0,0)))]) σ)) ?_
  have hxd:=hx a8 (by rw [hl8]; simp)
  refine Ag rfl rfl (Lo (.int .u64 ((a8:Int))) (Bj (σ':=pfx8 ++ ((k5,Res.obj (Obj.cells #[(.bool (no))] 4 (0,0))) :: ((k4,Res.obj (Obj.cells #[(.bool (so))] 4 (0,0))) :: σ))) (Bmj (by first | exact Fe ([(k5,Res.obj (Obj.cells #[(.bool (no))] 4 (0,0))),(k4,Res.obj (Obj.cells #[(.bool (so))] 4 (0,0)))]) pfx8 σ | simpa only [List.append_assoc,List.cons_append,List.nil_append,List.set_cons_zero] using Fe ([(k5,Res.obj (Obj.cells #[(.bool (no))] 4 (0,0))),(k4,Res.obj (Obj.cells #[(.bool (so))] 4 (0,0)))]) pfx8 σ)) (Ac ?_)))
  refine ⟨rfl,rfl,Bml,_,rfl,?_⟩
  intro pfy8
  refine Aj (σ':=((k5,Res.obj (Obj.cells #[(.bool (no))] 4 (0,0))) :: ((k4,Res.obj (Obj.cells #[(.bool (so))] 4 (0,0))) :: (pfy8 ++ σ)))) (Bmj (by first | exact Fe pfy8 ([(k5,Res.obj (Obj.cells #[(.bool (no))] 4 (0,0))),(k4,Res.obj (Obj.cells #[(.bool (so))] 4 (0,0)))]) σ | simpa only [List.append_assoc,List.cons_append,List.nil_append,List.set_cons_zero] using Fe pfy8 ([(k5,Res.obj (Obj.cells #[(.bool (no))] 4 (0,0))),(k4,Res.obj (Obj.cells #[(.bool (so))] 4 (0,0)))]) σ)) (Ao (w_q rfl rfl fun K9 k9=>l_v (Lb Aqc rfl r2) (Asf (.int .u64 ((a8:Int))) (Arv (Adv (pr:=p) (a:=(UW.mk a8)) (v:=(.int .u64 ((a8:Int)))) hp Bml (by exact hxd) rfl rfl (Rq.2 rfl) ?_)))))
  refine l_k k9 (Asg (t:=(p) ((UW.mk a8))) rfl (fun b11=>?_) (fun b11=>?_))
  ·have hqbb11:q a8 = true:=(hq _).symm.trans b11
   refine Ag rfl rfl (Cx rfl (Cz (j:=1) (v:=(.bool (true))) ⟨_,Ab Biw,rfl⟩ rfl rfl rfl rfl (Nat.le_of_ble_eq_true rfl) ?_))
   refine Bj (σ':=pfy8 ++ ((k5,Res.obj (Obj.cells #[(.bool (no))] 4 (0,0))) :: ((k4,Res.obj (Obj.cells #[(.bool (true))] 4 (0,0))) :: σ))) (Bmj (by first | exact Fe ([(k5,Res.obj (Obj.cells #[(.bool (no))] 4 (0,0))),(k4,Res.obj (Obj.cells #[(.bool (true))] 4 (0,0)))]) pfy8 σ | simpa only [List.append_assoc,List.cons_append,List.nil_append,List.set_cons_zero] using Fe ([(k5,Res.obj (Obj.cells #[(.bool (no))] 4 (0,0))),(k4,Res.obj (Obj.cells #[(.bool (true))] 4 (0,0)))]) pfy8 σ)) (Ac ?_)
   refine ⟨rfl,Bml,_,rfl,l1 ++ [a8],(true),(no),(by simp),rfl,(by rw [any_app,← p8_0,hqbb11]; simp),(by rw [any_app,← p8_1,hqbb11]; simp),trivial⟩
  have hqbb11:q a8 = false:=(hq _).symm.trans b11
  refine Ag rfl rfl (Cx rfl (Cz (j:=0) (v:=(.bool (true))) ⟨_,Ab Biw,rfl⟩ rfl rfl rfl rfl (Nat.le_of_ble_eq_true rfl) ?_))
  refine Bj (σ':=pfy8 ++ ((k5,Res.obj (Obj.cells #[(.bool (true))] 4 (0,0))) :: ((k4,Res.obj (Obj.cells #[(.bool (so))] 4 (0,0))) :: σ))) (Bmj (by first | exact Fe ([(k5,Res.obj (Obj.cells #[(.bool (true))] 4 (0,0))),(k4,Res.obj (Obj.cells #[(.bool (so))] 4 (0,0)))]) pfy8 σ | simpa only [List.append_assoc,List.cons_append,List.nil_append,List.set_cons_zero] using Fe ([(k5,Res.obj (Obj.cells #[(.bool (true))] 4 (0,0))),(k4,Res.obj (Obj.cells #[(.bool (so))] 4 (0,0)))]) pfy8 σ)) (Ac ?_)
  refine ⟨rfl,Bml,_,rfl,l1 ++ [a8],(so),(true),(by simp),rfl,(by rw [any_app,← p8_0,hqbb11]; simp),(by rw [any_app,← p8_1,hqbb11]; simp),trivial⟩
 ·rintro k12 ρ12 _ l12 ⟨l1,so,no,hpre12,rfl,p8_0,p8_1,_⟩
  obtain rfl:=Nf Apq hpre12
  apply k6
  refine Ai fun K13 k13=>Ao (w_q rfl rfl fun K14 k14=>Arv (Dt (i:=2) (v:=(.bool (so))) ⟨_,Bjf,rfl⟩ rfl rfl rfl ?_))
  refine Asf (.bool (so)) (Cn (so) (fun b15=>?_) (fun b15=>?_))
  ·refine Ae (gY rfl b15) (Dt (i:=1) (v:=(.bool (no))) ⟨_,Bjf,rfl⟩ rfl rfl rfl ?_)
   refine l_v (Bt rfl b15 (v:=(.bool (no))) rfl) (Lo (.bool (no)) (l_k k14 (Asg (t:=no) rfl (fun b16=>?_) (fun b16=>?_))))
   ·refine w_q rfl rfl fun K17 k17=>Lo (iV (0)) (l_k k17 (Aj (Bmj Arz) (Aj Bmh (Aj (Bmj Arz) (Aj Bmh (Aj (Bmi (Bmm l2 l12)) (Aq (hret _ _ _ _ (⟨rfl,rfl,eT (iV (0)) ?_⟩)))))))))
    rw [Ga,← p8_0,← p8_1]; simp [b15,b16]
   refine w_q rfl rfl fun K18 k18=>Arv (Dt (i:=2) (v:=(.bool (so))) ⟨_,Bjf,rfl⟩ rfl rfl rfl ?_)
   refine Lo (.bool (so)) (l_k k18 (Co rfl b15 (w_q rfl rfl fun K19 k19=>Lo (iV (1)) (l_k k19 (Aj (Bmj Arz) (Aj Bmh (Aj (Bmj Arz) (Aj Bmh (Aj (Bmi (Bmm l2 l12)) (Aq (hret _ _ _ _ (⟨rfl,rfl,eT (iV (1)) ?_⟩))))))))))))
   rw [Ga,← p8_0,← p8_1]; simp [b15,b16]
  refine Ap (gN rfl b15) (l_v (Bn rfl b15 (v:=(.bool (false))) rfl) (Lo (.bool (false)) (l_k k14 (Cg rfl rfl (w_q rfl rfl fun K20 k20=>Arv (Dt (i:=2) (v:=(.bool (so))) ⟨_,Bjf,rfl⟩ rfl rfl rfl ?_))))))
  refine Lo (.bool (so)) (l_k k20 (Cg rfl b15 (Al (k13 _ _ _ _ ?_))))
  refine w_q rfl rfl fun K21 k21=>Lo (iV (2)) (l_k k21 (Aj (Bmj Arz) (Aj Bmh (Aj (Bmj Arz) (Aj Bmh (Aj (Bmi (Bmm l2 l12)) (Aq (hret _ _ _ _ (⟨rfl,rfl,eT (iV (2)) ?_⟩)))))))))
  rw [Ga,← p8_0,← p8_1]; simp [b15]
end
section
open Go Go.Conc
section
variable {P:Program} {c:Nat} {fr fr':Frame} {cs cs':List Frame} {ρ:Ro} {σ:Own} {vs:List Value}
theorem Fa (h:∀ W,stepG P false (Conc.G fr cs) W = .go (Conc.G fr' cs') W #[]) (hk:SendI P c vs fr' cs' ρ σ):SendI P c vs fr cs ρ σ :=
 .step (fun a b c=>a = fr'∧b = cs'∧c = σ) (fun W hs=>⟨fr',cs',W,#[],σ,h W,.refl hs,by simp,rfl,rfl,rfl⟩) (by rintro _ _ _ ⟨rfl,rfl,rfl⟩; exact hk)
end
abbrev Aco:=List Value→Hu
/-- A piece of a sender's code: from here these values are still to be sent. -/
def WpV (P:Program) (c:Nat) (b:FB) (n:Nat) (code:Code) (Q:Aco) (vs:List Value) (e:Env) (ds:List Deferred) (ρ:Ro) (σ:Own):Prop :=
 ∀ tm k cs,EnvOf n tm e→(∀ ex vs' tm' e' ds' ρ' σ' todo,EnvOf n tm' e'→Q vs' ex e' ds' ρ' σ'→Pl ex k todo→SendI P c vs' (Fr b tm' ds' todo) cs ρ' σ')→SendI P c vs (Fr b tm ds (.code code :: k)) cs ρ σ
section
variable {P:Program} {c:Nat} {b:FB} {n:Nat} {Q:Aco} {vs:List Value} {e:Env} {ds:List Deferred} {ρ ρ':Ro} {σ σ':Own}
theorem Ot {code:Code} (h:WpC (Wn P) b n code (Q vs) e ds ρ σ):WpV P c b n code Q vs e ds ρ σ:=fun tm k cs ht hk =>
 SendI.of_goes (h tm k cs ht) (by rintro _ _ _ _ ⟨rfl,ex,tm',e',ds',todo,h1,h2,h3,rfl⟩; exact hk _ _ _ _ _ _ _ _ h1 h2 h3)
theorem Nu {x y:Code} (h:∀ K:List Value→Env→List Deferred→Ro→Own→Prop,(∀ vs e ds ρ σ,WpV P c b n y Q vs e ds ρ σ→K vs e ds ρ σ)→WpV P c b n x (fun vs=>Zo (K vs) (Q vs)) vs e ds ρ σ):WpV P c b n (.seq x y) Q vs e ds ρ σ:=by
 intro tm k cs ht hk
 refine Fa (fr':=Fr b tm ds (.code x :: .code y :: k)) (cs':=cs) (fun W=>by simp [Conc.G,stepG,stepG.exec,Fr]) ?_
 refine h (fun vs e ds ρ σ=>WpV P c b n y Q vs e ds ρ σ) (fun _ _ _ _ _ h=>h) tm (.code y :: k) cs ht fun ex vs' tm' e' ds' ρ' σ' todo h1 h2 h3=>?_
 cases ex with
 | normal=>cases h3; exact h2 tm' k cs h1 hk
 | exit id=>exact hk _ _ _ _ _ _ _ _ h1 h2 (He (by simp) (fun _=>rfl) h3)
 | ret=>exact hk _ _ _ _ _ _ _ _ h1 h2 (He (by simp) (fun _=>rfl) h3)
theorem Adx {q:Operand} {x y:Code} {t:Bool} (hc:Af e q = .bool t) (h1:t = true→WpV P c b n x Q vs e ds ρ σ) (h0:t = false→WpV P c b n y Q vs e ds ρ σ):WpV P c b n (.cond q x y) Q vs e ds ρ σ:=by
 intro tm k cs ht hk
 have hev:(Fr b tm ds (.code (.cond q x y) :: k)).eval q = .bool t:=by rw [ht.eval]; exact hc
 refine Fa (fr':=Fr b tm ds (.code (if t then x else y) :: k)) (cs':=cs) (fun W=>?_) ?_
 ·simp only [Fr] at hev
  simp [Conc.G,stepG,stepG.exec,Fr,hev]
 ·cases t with
  | true=>exact h1 rfl tm k cs ht hk
  | false=>exact h0 rfl tm k cs ht hk
theorem Ady (h:Q vs .normal e ds ρ σ):WpV P c b n .skip Q vs e ds ρ σ:=Ot (Al h)
theorem Ame {id:Nat} (h:Q vs (.exit id) e ds ρ σ):WpV P c b n (.exit id) Q vs e ds ρ σ:=Ot (Bx h)
theorem Aac {id:Nat} {x:Code} (h:WpV P c b n x (fun vs=>Qy id (Q vs)) vs e ds ρ σ):WpV P c b n (.block id x) Q vs e ds ρ σ:=by
 intro tm k cs ht hk
 refine Fa (fr':=Fr b tm ds (.code x :: .inBlock id :: k)) (cs':=cs) (fun W=>by simp [Conc.G,stepG,stepG.exec,Fr]) ?_
 refine h tm (.inBlock id :: k) cs ht fun ex vs' tm' e' ds' ρ' σ' todo h1 h2 h3=>?_
 cases ex with
 | normal =>
  cases h3
  exact Fa (fr':=Fr b tm' ds' k) (fun W=>by simp [Conc.G,stepG,stepG.exec,Fr]) (hk .normal _ _ _ _ _ _ _ h1 h2 rfl)
 | exit id' =>
  obtain ⟨pre,hp,rfl⟩:=h3
  by_cases hid:id' = id
  ·subst hid
   simp only [Qy,if_true] at h2
   refine Fa (fr':=Fr b tm' ds' k) (fun W=>?_) (hk .normal _ _ _ _ _ _ _ h1 h2 rfl)
   have:exitTo id' (pre ++ .inBlock id' :: k) = some k:=by rw [Mj hp]; simp [exitTo]
   simp [Conc.G,stepG,stepG.exec,Fr,this]
  ·simp only [Qy,hid,if_false] at h2
   refine hk (.exit id') _ _ _ _ _ _ _ h1 h2 ⟨pre ++ [.inBlock id],fun y hy=>?_,by simp⟩
   rcases List.mem_append.1 hy with hy | hy
   ·exact hp y hy
   ·rw [List.mem_singleton.1 hy]; simp [Wc,Ne.symm hid]
 | ret =>
  obtain ⟨pre,rfl⟩:=h3
  exact hk .ret _ _ _ _ _ _ _ h1 h2 ⟨pre ++ [.inBlock id],by simp⟩
theorem Amf {x:Code} (I:Nat→List Value→Env→List Deferred→Ro→Own→Prop) {m:Nat} (h₀:I m vs e ds ρ σ)
  (round:∀ m vs e ds ρ σ,I m vs e ds ρ σ→WpV P c b n x (fun vs=>Zo (fun e' ds' ρ' σ'=>∃ m',m' < m∧I m' vs e' ds' ρ' σ') (Q vs)) vs e ds ρ σ):WpV P c b n (.loop x) Q vs e ds ρ σ:=by
 intro tm k cs ht hk
 refine Fa (fr':=Fr b tm ds (.code x :: .inLoop x :: k)) (cs':=cs) (fun W=>by simp [Conc.G,stepG,stepG.exec,Fr]) ?_
 induction m using Nat.strongRecOn generalizing tm vs e ds ρ σ with
 | _ m ih =>
  refine round m vs e ds ρ σ h₀ tm (.inLoop x :: k) cs ht fun ex vs' tm' e' ds' ρ' σ' todo h1 h2 h3=>?_
  cases ex with
  | normal =>
   cases h3
   obtain ⟨m',hlt,hI⟩:=h2
   exact Fa (fr':=Fr b tm' ds' (.code x :: .inLoop x :: k)) (fun W=>by simp [Conc.G,stepG,stepG.exec,Fr]) (ih m' hlt hI tm' h1)
  | exit id=>exact hk _ _ _ _ _ _ _ _ h1 h2 (He (by simp) (fun _=>rfl) h3)
  | ret=>exact hk _ _ _ _ _ _ _ _ h1 h2 (He (by simp) (fun _=>rfl) h3)
end
end
section
open Go Go.Conc
/-- The goroutine's own first frame,when its call has been taken. -/
def Gf (P:Program):Frame:={ (default:Frame) with fn:=P.funcs.size,defers:=[],mode:=.panicking [goexitEntry] }
theorem Abf {P:Program} {f:FuncId} {fn:Func} {args:Array Value} (hf:P.funcs[f]? = some fn) (hn:(fn.name == "runtime.NumGoroutine") = false) (hb:fn.body.isNone = false) (W:World) :
  (invoke (.fn (.func f) #[]) args).runT P W #[] = (.ok (.enter f args) W,#[]):=by
 show (callFunc f (args ++ #[])).runT P W #[] = _
 rw [Array.append_empty]
 show (program.bind _:Sem Next).runT P W #[] = _
 rw [Sem.runT_bind']
 show Sem.runT P (match P.funcs[f]? with | none=>_ | some fn=>_) W #[] = _
 rw [hf]
 simp only [hn,hb]
 rfl
theorem Abt {P:Program} {c:Nat} {ρ:Ro} {vs:List Value} {f:FuncId} {fn:Func} {args:Array Value} (hf:P.funcs[f]? = some fn) (hn:(fn.name == "runtime.NumGoroutine") = false) (hb:fn.body.isNone = false)
  (h:SendI P c vs (Frame.enter P f args .deferred) [Gf P] ρ []):SendI P c vs (Gg P { target:=.fn (.func f) #[],args:=args }) [] ρ []:=by
 refine Fa (fun W=>?_) h
 have hr:=Abf (args:=args) hf hn hb W
 simp [Conc.G,stepG,Gg,unwind,callDeferred,-Sem.runT_eq,hr,GStep.after,seen,Gf]
/-- What has been deferred: the close. -/
def Lj (c:Nat) (tys:Array TypeId) (ty:TypeId) (cn:Array Bool):Deferred:={ target:=.builtin .close tys ty cn,args:=#[.chan (some c)] }
theorem Aeo {P:Program} {c:Nat} {tys:Array TypeId} {ty:TypeId} {cn:Array Bool} {W:World} {s r:Nat} {tm:Bool} (h:W.heap[c]? = some (.chan 0 #[] false s r tm)) :
  (invoke (.builtin .close tys ty cn) #[.chan (some c)]).runT P W #[] = (.ok (.value (.tuple #[])) (W.setChan c 0 #[] true s r tm),#[⟨.obj c,false,true⟩,⟨.obj c,true,true⟩]):=by
 have e1:(Builtin.close_ tys ty #[.chan (some c)]).runT P W #[] = (.ok (.tuple #[]) (W.setChan c 0 #[] true s r tm),#[⟨.obj c,false,true⟩,⟨.obj c,true,true⟩]):=by
  show Sem.runT P (Sem.getObj c fun o=>Sem.bind (Sem.pure o) _) W #[] = _
  rw [Sem.runT]
  simp only [h]
  show Sem.runT P (Sem.setObj c (.chan 0 #[] true s r tm) (Sem.pure (Value.tuple #[]))) W _ = _
  rw [Sem.runT]
  simp only [h]
  rfl
 show ((Builtin.close_ tys ty #[.chan (some c)]).bind fun v=>Sem.pure (Next.value v)).runT P W #[] = _
 rw [Sem.runT_bind',e1]
 rfl
/-- It leaves a function that yields nothing,and closes what was deferred. -/
theorem Aky {P:Program} {c:Nat} {b:FB} {tm:Array Value} {todo:List Item} {fn:Func} {tys:Array TypeId} {ty:TypeId} {cn:Array Bool} (hf:P.funcs[b.fn]? = some fn) (hk:b.kind = .deferred) (hr:fn.results = #[]) :
  Acm P c { Fr b tm [Lj c tys ty cn] todo with mode:=.returning } [Gf P]:=by
 refine ⟨rfl,2,Conc.G { Fr b tm [] todo with mode:=.returning } [Gf P],?_,fun W s r tm' hc=>?_⟩
 ·refine .inr ⟨rfl,Conc.G (Gf P) [],fun w=>?_,.inr ⟨rfl,{ Conc.G (Gf P) [] with status:=.finished },fun w=>?_,(rfl:GoStatus.finished = GoStatus.finished)⟩⟩
  ·have hrs:(results fn tm).runT P w #[] = (.ok (.tuple #[]) w,#[]):=by
    unfold results; rw [hr,Array.mapM_eq_foldlM]; rfl
   simp [Conc.G,stepG,Fr,unwind,hf,-Sem.runT_eq,hrs,doReturn,hk,GStep.after,Gf,goexitEntry,seen]
  ·have hc:Frame.catches P (Gf P) = false:=by
    unfold Frame.catches Gf
    cases P.funcs[P.funcs.size]? <;> rfl
   simp only [Gf,goexitEntry] at hc
   simp [Conc.G,stepG,Gf,unwind,goexitEntry,hc]
 ·have h1:=Aeo (P:=P) (tys:=tys) (ty:=ty) (cn:=cn) hc
  simp [Conc.G,stepG,Fr,unwind,Lj,callDeferred,-Sem.runT_eq,h1,GStep.after,seen]
section
variable {P:Program} {c:Nat} {b:FB} {n:Nat} {l₀ rest:List Oper} {Q:List Value→Env→List Deferred→Ro→Own→Prop} {vs:List Value} {e:Env} {ds:List Deferred} {ρ:Ro} {σ:Own}
/-- The operations of a sender's region. -/
def Aea (P:Program) (c:Nat) (b:FB) (n:Nat) (l₀ rest:List Oper) (Q:List Value→Env→List Deferred→Ro→Own→Prop) (vs:List Value) (e:Env) (ds:List Deferred) (ρ:Ro) (σ:Own):Prop :=
 ∀ pre,l₀ = pre ++ rest→Fu n l₀.toArray = true→b.kind ≠ .early→∀ tm k cs,EnvOf n tm e→(∀ vs' tm' e' ds' ρ' σ',EnvOf n tm' e'→Q vs' e' ds' ρ' σ'→SendI P c vs' (Fr b tm' ds' k) cs ρ' σ') →
  SendI P c vs (Fr b tm ds (.inRegion l₀.toArray (List.range' pre.length rest.length) :: k)) cs ρ σ
theorem Acd {id:Nat} {Q:Aco} (hs:Fu n l₀.toArray = true) (hk:b.kind ≠ .early) (h:Aea P c b n l₀ l₀ (fun vs=>(Q vs) .normal) vs e ds ρ σ):WpV P c b n (.region id l₀.toArray false) Q vs e ds ρ σ:=by
 intro tm k cs ht hq
 refine Fa (fr':=Fr b tm ds (.inRegion l₀.toArray (List.range l₀.toArray.size) :: k)) (cs':=cs) (fun W=>by simp [Conc.G,stepG,stepG.exec,Fr]) ?_
 have h1:=h [] rfl hs hk tm k cs ht fun vs' tm' e' ds' ρ' σ' h1 h2=>hq .normal _ _ _ _ _ _ _ h1 h2 rfl
 rw [List.size_toArray,List.range_eq_range']
 exact h1
theorem Aqd (h:Q vs e ds ρ σ):Aea P c b n l₀ [] Q vs e ds ρ σ:=by
 intro pre _ _ _ tm k cs ht hq
 exact Fa (fr':=Fr b tm ds k) (cs':=cs) (fun W=>by simp [Conc.G,stepG,stepG.exec,Fr]) (hq vs tm e ds ρ σ ht h)
theorem Amq {d:Nat} {op:Op} {ty:TypeId} {pos:String} {af:Array Edge} {g:Option (Nat × Bool)} {v:Value} (hw:Bz l₀.toArray ⟨some d,op,ty,pos,af,g⟩ e = true) (hnd:∀ c,op ≠ .defer c) (hy:Yld P ρ e op ty v) (h:Aea P c b n l₀ rest Q vs (upd e d v) ds ρ σ) :
  Aea P c b n l₀ (⟨some d,op,ty,pos,af,g⟩ :: rest) Q vs e ds ρ σ:=by
 intro pre hpre hs hk tm k cs ht hq
 have ho:l₀.toArray[pre.length]? = some ⟨some d,op,ty,pos,af,g⟩:=by subst hpre; simp
 rw [List.length_cons,List.range'_succ]
 have hrest:=h (pre ++ [⟨some d,op,ty,pos,af,g⟩]) (by rw [hpre]; simp) hs hk
 rw [List.length_append,List.length_singleton] at hrest
 have hev:=ht.eval b ds (.inRegion l₀.toArray (pre.length :: List.range' (pre.length + 1) rest.length) :: k)
 refine .step (fun fr' cs' σ'=>fr' = (Fr b tm ds (.inRegion l₀.toArray (pre.length :: List.range' (pre.length + 1) rest.length) :: k)).finish v∧cs' = cs∧σ' = σ) (fun W hsat=>?_) ?_
 ·obtain ⟨nx,σ',W',es,h1,h2,h3,h4⟩:=Rr _ σ _ W #[] (hy ρ σ (some d) pos af g fun _ _ h=>h) hsat
  obtain ⟨rfl,rfl⟩:=h2
  obtain ⟨fr',cs',es',h5,⟨hfr,hcs⟩,h7⟩:=Sx (fr:=Fr b tm ds (.inRegion l₀.toArray (pre.length :: List.range' (pre.length + 1) rest.length) :: k)) (cs:=cs) (s:=execOp (Af e) ⟨some d,op,ty,pos,af,g⟩) (by exact hk) (by simp [Fr]) h1 ⟨_,_,rfl,rfl⟩
  replace hcs:=hcs.symm; replace hfr:=hfr.symm; subst hcs hfr
  refine ⟨_,_,W',es',_,?_,h3,fun ev he=>(h4 ev (h7 ev he)).resolve_left (by simp),rfl,rfl,rfl⟩
  have hst:=Np (C:=Wn P) (b:=b) (ds:=ds) (tm:=tm) (k:=k) (cs:=cs) (rest:=List.range' (pre.length + 1) rest.length) ho (by rw [Ij hs ht]; exact hw) (fun c' h'=>absurd h' (hnd c')) W
  refine hst.trans ?_
  rw [hev]
  exact h5
 ·rintro _ _ _ ⟨rfl,rfl,rfl⟩
  rw [Ju ho]
  exact hrest _ k _ (Jj hs ht ho v) hq
theorem Anp {x y:Operand} {ty:TypeId} {pos:String} {af:Array Edge} {g:Option (Nat × Bool)} {v:Value} (hw:Bz l₀.toArray ⟨none,.send x y,ty,pos,af,g⟩ e = true) (hx:Af e x = .chan (some c)) (hy:Af e y = v) (h:Aea P c b n l₀ rest Q vs e ds ρ σ) :
  Aea P c b n l₀ (⟨none,.send x y,ty,pos,af,g⟩ :: rest) Q (v :: vs) e ds ρ σ:=by
 intro pre hpre hs hk tm k cs ht hq
 have ho:l₀.toArray[pre.length]? = some ⟨none,.send x y,ty,pos,af,g⟩:=by subst hpre; simp
 rw [List.length_cons,List.range'_succ]
 have hrest:=h (pre ++ [⟨none,.send x y,ty,pos,af,g⟩]) (by rw [hpre]; simp) hs hk
 rw [List.length_append,List.length_singleton] at hrest
 have hev:=ht.eval b ds (.inRegion l₀.toArray (pre.length :: List.range' (pre.length + 1) rest.length) :: k)
 refine .send (z:=.tuple #[]) (fun W=>?_) ?_
 ·have hst:=Np (C:=Wn P) (b:=b) (ds:=ds) (tm:=tm) (k:=k) (cs:=cs) (rest:=List.range' (pre.length + 1) rest.length) ho (by rw [Ij hs ht]; exact hw) (fun c' h'=>by cases h') W
  refine hst.trans ?_
  rw [hev]
  have hk':(b.kind == CallKind.early) = false:=by cases hb:b.kind <;> simp_all <;> rfl
  have hr:(execOp (Af e) ⟨none,.send x y,ty,pos,af,g⟩).runT P W #[] = (.ok (.comm #[scase c v (.tuple #[])] true .send) W,#[]):=by
   show (Sem.pure (Next.comm #[{ chan:=Af e x,send:=some (Af e y),zero:=.tuple #[] }] true .send)).runT P W #[] = _
   rw [hx,hy]; rfl
  simp only [Wn] at *
  simp [stepG.apply,-Sem.runT_eq,hr,hk',GStep.after,Conc.G,Fr,seen]
 ·rw [Ju ho]
  exact hrest tm k _ ht hq
end
section
variable {C:Ctx} {e:Env} {ds:List Deferred} {ρ:Ro} {σ:Own} {K:Value→List Deferred→Ro→Own→Prop} {dd:Option Tmp}
theorem Xn {ty:TypeId} {pos:String} {af:Array Edge} {g:Option (Nat × Bool)} {x:Operand} {tys:Array TypeId} {c t:Nat} (hxt:x = .tmp t) (hx:Af e x = .chan (some c)) (h:K undef (Lj c tys ty #[false] :: ds) ρ σ) :
  wpS C.P ρ (execOp (Af e) ⟨dd,.defer ⟨.builtin .close,#[x],tys⟩,ty,pos,af,g⟩) σ (NextH C K none ds ρ):=by
 subst hxt
 have e1:execOp (Af e) ⟨dd,.defer ⟨.builtin .close,#[.tmp t],tys⟩,ty,pos,af,g⟩ = Sem.pure (Next.defer { target:=.builtin .close tys ty #[false],args:=#[Af e (.tmp t)] }):=by
  show ((resolve (Af e) ⟨.builtin .close,#[.tmp t],tys⟩ ty).bind fun d=>Sem.pure (Next.defer d)) = _
  simp [resolve,Sem.bind,pure]
 rw [e1,hx]
 exact ⟨rfl,h⟩
end
theorem Alt {P:Program} {c:Nat} {f:FuncId} {fn:Func} {code:Code} {n:Nat} {args vs:List Value} {ρ:Ro} {tys:Array TypeId} {ty:TypeId} {cn:Array Bool} (hf:P.funcs[f]? = some fn) (hc:fn.body = some code) (hn:fn.ntmps = n) (hr:fn.results = #[]) (ha:Nat.ble args.length n = true) (hnm:(fn.name == "runtime.NumGoroutine") = false) (hb:fn.body.isNone = false)
  (h:∀ Q:Aco,(∀ e ρ' σ',Q [] .ret e [Lj c tys ty cn] ρ' σ')→(∀ e ρ' σ',Q [] .normal e [Lj c tys ty cn] ρ' σ')→WpV P c ⟨f,.deferred,none⟩ n code Q vs (Pn args) [] ρ []) :
  SendI P c vs (Gg P { target:=.fn (.func f) #[],args:=args.toArray }) [] ρ []:=by
 refine Abt hf hnm hb ?_
 have e1:Frame.enter P f args.toArray .deferred = Fr ⟨f,.deferred,none⟩ (args.toArray ++ Array.replicate (n - args.toArray.size) undef) [] [.code code]:=by
  simp [Frame.enter,hf,hc,hn,Fr]
 rw [e1]
 refine h (fun vs ex _ ds _ _=>vs = []∧(∀ id,ex ≠ .exit id)∧ds = [Lj c tys ty cn]) (fun _ _ _=>⟨rfl,fun id h=>(by cases h),rfl⟩) (fun _ _ _=>⟨rfl,fun id h=>(by cases h),rfl⟩) _ [] [Gf P] (Tn (Nat.le_of_ble_eq_true ha)) ?_
 rintro ex vs' tm' e' ds' ρ' σ' todo h1 ⟨rfl,h2,rfl⟩ h3
 have fin:∀ todo,SendI P c [] { Fr ⟨f,.deferred,none⟩ tm' [Lj c tys ty cn] todo with mode:=.returning } [Gf P] ρ' σ':=fun todo=>.close (Aky (b:=⟨f,.deferred,none⟩) hf rfl hr)
 cases ex with
 | normal =>
  cases h3
  exact Fa (fr':={ Fr ⟨f,.deferred,none⟩ tm' [Lj c tys ty cn] [] with mode:=.returning }) (fun W=>by simp [Conc.G,stepG,stepG.exec,Fr]) (fin _)
 | exit id=>exact absurd rfl (h2 id)
 | ret =>
  obtain ⟨pre,rfl⟩:=h3
  exact Fa (fr':={ Fr ⟨f,.deferred,none⟩ tm' [Lj c tys ty cn] (.code .ret :: (pre ++ [])) with mode:=.returning }) (fun W=>by simp [Conc.G,stepG,stepG.exec,Fr]) (fin _)
end
section
open Go Go.Conc
def Agk:Nat→List (List Bool)
 | 0=>[[]]
 | k + 1=>(Agk k).flatMap fun l=>[true :: l,false :: l]
theorem Yu:∀ (l:List Bool),l ∈ Agk l.length
 | []=>by simp [Agk]
 | b :: l=>by
  rw [List.length_cons,Agk,List.mem_flatMap]
  exact ⟨l,Yu l,by cases b <;> simp⟩
def Mh (ops:List Oper) (l:List Bool):Bool:=(List.range ops.length).all fun i=>!l.getD i false || (match ops[i]? with | some o=>o.after.all (fun e=>!Region.binds .any e || l.getD e.on false) | none=>true)
/-- The last one comes when all others have come. -/
def Amp (ops' ops:List Oper):Bool:=(Agk ops'.length).all fun l=>!Mh ops' l || (decide (Dl ops (l ++ [false]) = if Dl ops' l = [] then [ops'.length] else Dl ops' l) && (decide (Dl ops' l ≠ []) || decide (Dl ops (l ++ [true]) = [])) && (Dl ops' l).all fun i=>Mh ops' (l.set i true))
def Adh (l:List Oper):Bool:=l.all fun o=>o.guard.isNone
section
variable {C:Ctx} {b:FB} {n:Nat} {l':List Oper} {oL:Oper} {Q Q':Env→List Deferred→Ro→Own→Prop} {pz:List Nat} {S:Ro→Own→Prop}
theorem Aap (hs:Fu n (l' ++ [oL]).toArray = true) (hk:b.kind ≠ .early) (hg:Adh l' = true) (hc:Amp l' (l' ++ [oL]) = true) (hQ:∀ e ds ρ σ,Q' e ds ρ σ→Lq C b n (l' ++ [oL]).toArray [l'.length] Q e ds ρ σ) :
  ∀ (fuel t:Nat) (l:List Bool) (e:Env) (ds:List Deferred) (ρ:Ro) (σ:Own),l.length = l'.length→Mh l' l = true→El C b l'.toArray Q' pz S fuel l.toArray e ds ρ σ →
  Lq C b n (l' ++ [oL]).toArray (Region.linearise.go .any (l' ++ [oL]).toArray (fuel + 1) t (l ++ [false]).toArray []) Q e ds ρ σ:=by
 have spec:∀ l:List Bool,l.length = l'.length→Mh l' l = true→Dl (l' ++ [oL]) (l ++ [false]) = (if Dl l' l = [] then [l'.length] else Dl l' l)∧(Dl l' l = []→Dl (l' ++ [oL]) (l ++ [true]) = [])∧∀ i ∈ Dl l' l,Mh l' (l.set i true) = true:=fun l hl hcl=>by
  have h1:=List.all_eq_true.1 hc l (hl ▸ Yu l)
  rw [hcl] at h1
  simp only [Bool.not_true,Bool.false_or,Bool.and_eq_true,Bool.or_eq_true,decide_eq_true_eq,List.all_eq_true] at h1
  exact ⟨h1.1.1,fun h=>h1.1.2.resolve_left fun h'=>h' h,h1.2⟩
 have rd:∀ (l:List Oper) (li:List Bool),Region.ready .any l.toArray li.toArray = Dl l li:=Hh
 -- only the last one is left
 have fin:∀ (fuel t:Nat) (l:List Bool) (e:Env) (ds:List Deferred) (ρ:Ro) (σ:Own),l.length = l'.length→Mh l' l = true→Dl l' l = []→Q' e ds ρ σ →
   Lq C b n (l' ++ [oL]).toArray (Region.linearise.go .any (l' ++ [oL]).toArray (fuel + 1) t (l ++ [false]).toArray []) Q e ds ρ σ:=by
  intro fuel t l e ds ρ σ hl hcl hr hq
  obtain ⟨h1,h2,_⟩:=spec l hl hcl
  rw [if_pos hr] at h1
  have e1:Region.linearise.go .any (l' ++ [oL]).toArray (fuel + 1) t (l ++ [false]).toArray [] = [l'.length]:=by
   simp only [Region.linearise.go]
   change (match (Region.ready .any (l' ++ [oL]).toArray (l ++ [false]).toArray)[t % (Region.ready .any (l' ++ [oL]).toArray (l ++ [false]).toArray).length]? with
    | some i=>Region.linearise.go .any (l' ++ [oL]).toArray fuel (t / (Region.ready .any (l' ++ [oL]).toArray (l ++ [false]).toArray).length) ((l ++ [false]).toArray.setIfInBounds i true) [i]
    | none=>[].reverse) = _
   rw [rd,h1]
   simp only [List.length_singleton,Nat.mod_one,List.getElem?_cons_zero]
   rw [linearise_go_acc]
   have e2:(l ++ [false]).toArray.setIfInBounds l'.length true = (l ++ [true]).toArray:=by
    rw [← hl]; simp
   rw [e2]
   cases fuel with
   | zero=>simp [Region.linearise.go]
   | succ fuel =>
    simp only [Region.linearise.go]
    have e3:Region.ready .any (l' ++ [oL]).toArray (l ++ [true]).toArray = []:=(rd _ _).trans (h2 hr)
    change [l'.length].reverse ++ (match (Region.ready .any (l' ++ [oL]).toArray (l ++ [true]).toArray)[(t / 1) % (Region.ready .any (l' ++ [oL]).toArray (l ++ [true]).toArray).length]? with
     | some i=>Region.linearise.go .any (l' ++ [oL]).toArray fuel ((t / 1) / (Region.ready .any (l' ++ [oL]).toArray (l ++ [true]).toArray).length) ((l ++ [true]).toArray.setIfInBounds i true) [i]
     | none=>[].reverse) = _
    rw [e3]; rfl
  rw [e1]; exact hQ _ _ _ _ hq
 intro fuel
 induction fuel with
 | zero =>
  intro t l e ds ρ σ hl hcl h
  exact fin 0 t l e ds ρ σ hl hcl ((rd _ _).symm.trans h.1) h.2
 | succ fuel ih =>
  intro t l e ds ρ σ hl hcl h
  rcases h with h | ⟨ρ₁,σ₁,hgh,_,h₀,h₁⟩
  ·exact fun tm k cs ht=>Rc h
  refine fun tm k cs ht=>.ghost hgh ?_
  revert tm k cs
  change Lq C b n (l' ++ [oL]).toArray (Region.linearise.go .any (l' ++ [oL]).toArray (fuel + 1 + 1) t (l ++ [false]).toArray []) Q e ds ρ₁ σ₁
  by_cases hr:Dl l' l = []
  ·exact fin (fuel + 1) t l e ds ρ₁ σ₁ hl hcl hr (h₀ ((rd _ _).trans hr))
  obtain ⟨h1,h2,h3⟩:=spec l hl hcl
  rw [if_neg hr] at h1
  rw [Region.linearise.go]
  change Lq C b n (l' ++ [oL]).toArray (match (Region.ready .any (l' ++ [oL]).toArray (l ++ [false]).toArray)[t % (Region.ready .any (l' ++ [oL]).toArray (l ++ [false]).toArray).length]? with
   | some i=>Region.linearise.go .any (l' ++ [oL]).toArray (fuel + 1) (t / (Region.ready .any (l' ++ [oL]).toArray (l ++ [false]).toArray).length) ((l ++ [false]).toArray.setIfInBounds i true) [i]
   | none=>[].reverse) Q e ds ρ₁ σ₁
  rw [rd,h1]
  have hlen:0 < (Dl l' l).length:=List.length_pos_iff.2 hr
  have hlt:t % (Dl l' l).length < (Dl l' l).length:=Nat.mod_lt _ hlen
  rw [List.getElem?_eq_getElem hlt]
  simp only []
  have hi:(Dl l' l)[t % (Dl l' l).length] ∈ Dl l' l:=List.getElem_mem hlt
  generalize (Dl l' l)[t % (Dl l' l).length] = i at hi
  have hi':i < l'.length:=by
   have:=(List.mem_filter.1 (show i ∈ (List.range l'.length).filter _ from hi)).1
   simpa using this
  rw [linearise_go_acc,List.reverse_singleton,List.singleton_append]
  have h4:=h₁ i (by rw [rd]; exact hi)
  have e5:(l ++ [false]).toArray.setIfInBounds i true = (l.set i true ++ [false]).toArray:=by
   simp [List.set_append_left _ _ (hl ▸ hi')]
  have e6:l.toArray.setIfInBounds i true = (l.set i true).toArray:=by simp
  rw [e5]
  refine Uc hs hk ?_
  -- the operation is the same in both arrays
  have ho:l'[i]? = some l'[i]:=List.getElem?_eq_getElem hi'
  have ho2:(l' ++ [oL])[i]? = some l'[i]:=by rw [List.getElem?_append_left hi',ho]
  have hgn:(l'[i]).guard = none:=by
   have:=List.all_eq_true.1 hg _ (List.getElem_mem hi')
   simpa using this
  unfold OpH at h4 ⊢
  simp only [List.getElem?_toArray,ho,ho2] at h4 ⊢
  have w1:Bz l'.toArray l'[i] e = true:=by unfold Bz; rw [hgn]
  have w2:Bz (l' ++ [oL]).toArray l'[i] e = true:=by unfold Bz; rw [hgn]
  rw [if_pos w1] at h4
  rw [if_pos w2]
  refine Eu (fun nx σ' hn=>hn.mono fun v ds ρ σ hh=>?_) _ _ h4
  refine ih _ _ _ _ _ _ (by simpa using hl) (h3 i hi) ?_
  rw [← e6]; exact hh.2
theorem Ge {l₀:List Oper} {id:Nat} {Q:Hu} {e:Env} {ds:List Deferred} {ρ:Ro} {σ:Own} (hs:Nm n l₀ = true) (hk:b.kind ≠ .early) (h:Ey C b n l₀ l₀ (fun e ds ρ σ=>Q .normal e ds ρ σ) e ds ρ σ):WpC C b n (.region id l₀.toArray false) Q e ds ρ σ:=by
 refine Wp (Ih hs) hk ?_
 have:=h [] rfl (Ih hs) hk
 simpa [List.range_eq_range'] using this
theorem Ang {e:Env} {args:List Operand} {vs:List Value} {f:FuncId} {tys:Array TypeId} {ty:TypeId} (hv:EvL e args vs):resolve (Af e) ⟨.value (.func f),args.toArray,tys⟩ ty = pure { target:=.fn (.func f) #[],args:=vs.toArray }:=by
 have hv':=hv.map
 show Deferred.ofValue (Af e (.func f)) (args.toArray.map (Af e)) = _
 rw [hv']
 show (pure { target:=.fn (.func f) #[],args:=#[] ++ vs.toArray }:Sem Deferred) = _
 rw [Array.empty_append]
/-- A drawn region whose last operation waits for all the others. -/
theorem Agh {l₀:List Oper} {id:Nat} {Q:Hu} {e:Env} {ds:List Deferred} {ρ:Ro} {σ:Own} (k:Nat) (pz:List Nat) (hm:C.P.follows .mixedOrders = true) (hs:Nm n l₀ = true) (hk:b.kind = .normal) (hd:∃ oL,l₀.drop k = [oL]) (hg:Adh (l₀.take k) = true) (hc:Amp (l₀.take k) l₀ = true)
  (h:∀ K:Env→List Deferred→Ro→Own→Prop,(∀ e ds ρ σ,Ey C b n l₀ (l₀.drop k) (fun e ds ρ σ=>Q .normal e ds ρ σ) e ds ρ σ→K e ds ρ σ)→El C b (l₀.take k).toArray K pz (leS ρ) (l₀.take k).length (List.replicate (l₀.take k).length false).toArray e ds ρ σ):WpC C b n (.region id l₀.toArray true) Q e ds ρ σ:=by
 obtain ⟨oL,hd⟩:=hd
 have hl:l₀.take k ++ [oL] = l₀:=by rw [← hd,List.take_append_drop]
 have hs':=Ih hs
 have hk':b.kind ≠ .early:=by rw [hk]; simp
 have h2:=h (fun e ds ρ σ=>Lq C b n l₀.toArray [(l₀.take k).length] (fun e ds ρ σ=>Q .normal e ds ρ σ) e ds ρ σ) fun e ds ρ σ ho=>by
  have:=ho (l₀.take k) (List.take_append_drop k l₀).symm hs' hk'
  rw [hd] at this; exact this
 have hlen:l₀.toArray.size = (l₀.take k).length + 1:=by
  rw [List.size_toArray]; have:=congrArg List.length hl; simp only [List.length_append,List.length_singleton] at this; omega
 intro tm ks cs ht
 refine .step (fun fr' cs' σ'=>∃ t,fr' = Fr b tm ds (.inRegion l₀.toArray (Region.linearise .any l₀.toArray t) :: ks)∧cs' = cs∧σ' = σ) (fun W hsat=>?_) ?_
 ·refine ⟨_,cs,{ W with drawn:=W.drawn + 1 },#[],σ,?_,?_,by simp,W.tape W.drawn (.order b.fn id),rfl,rfl,rfl⟩
  ·simp [Conc.G,stepG,stepG.exec,Fr,choose,Sem.run,Question.forced,Question.cut,Region.schedule,hm]
  ·have:=Trans.refl hsat
   exact ⟨⟨hsat.ro,hsat.own,hsat.nd,hsat.dj⟩,this.size,this.keys,this.kept,this.fresh,this.frame,this.ends,this.chans,this.chansKept,rfl,rfl,rfl⟩
 ·rintro _ _ σ1 ⟨t,rfl,hcs,hσ⟩
  replace hσ:=hσ.symm; replace hcs:=hcs.symm; subst hσ hcs
  have key:=Aap (C:=C) (b:=b) (n:=n) (l':=l₀.take k) (oL:=oL) (Q:=fun e ds ρ σ=>Q .normal e ds ρ σ) (pz:=pz) (S:=leS ρ) (by rw [hl]; exact hs') hk' hg (by rw [hl]; exact hc) (fun e ds ρ σ h=>by rw [hl]; exact h) (l₀.take k).length t (List.replicate (l₀.take k).length false) e ds ρ σ (by simp) (by
   unfold Mh
   rw [List.all_eq_true]
   intro i hi
   have:(List.replicate (l₀.take k).length false).getD i false = false:=by
    rw [List.getD_eq_getElem?_getD,List.getElem?_replicate]; split <;> rfl
   rw [this]; rfl) h2
  rw [hl] at key
  have e1:Region.linearise .any l₀.toArray t = Region.linearise.go .any l₀.toArray ((l₀.take k).length + 1) t (List.replicate (l₀.take k).length false ++ [false]).toArray []:=by
   unfold Region.linearise
   rw [hlen]
   congr 1
   rw [← List.replicate_succ',List.toArray_replicate]
  rw [e1]
  refine (key tm ks cs ht).mono ?_
  rintro _ _ ρ' σ' ⟨rfl,tm',e',ds',h1,h2,rfl⟩
  exact ⟨rfl,.normal,tm',e',ds',ks,h1,h2,rfl,rfl⟩
end
end
section
open Go
def Fk (m:Market):List Nat:=(List.range (1 <<< m.houses.length)).filter (Fj m)
/-- What is still to be sent when the sets before i have been looked at. -/
def Jd (m:Market) (i:Nat):List Value:=((List.range' i ((1 <<< m.houses.length) - i)).filter (Fj m)).map fun x:Nat=>Value.int .u64 (x:Int)
theorem Aix {m:Market}:Jd m 0 = (Fk m).map fun x:Nat=>Value.int .u64 (x:Int):=by
 unfold Jd Fk; rw [List.range_eq_range',Nat.sub_zero]
theorem Aiz {m:Market} {i:Nat} (hi:i < 1 <<< m.houses.length) (h:Fj m i = true):Jd m i = .int .u64 (i:Int) :: Jd m (i + 1):=by
 unfold Jd
 rw [show 1 <<< m.houses.length - i = (1 <<< m.houses.length - (i + 1)) + 1 by omega,List.range'_succ,List.filter_cons,h,if_pos rfl,List.map_cons]
theorem Aiy {m:Market} {i:Nat} (hi:i < 1 <<< m.houses.length) (h:Fj m i = false):Jd m i = Jd m (i + 1):=by
 unfold Jd
 rw [show 1 <<< m.houses.length - i = (1 <<< m.houses.length - (i + 1)) + 1 by omega,List.range'_succ,List.filter_cons,h,if_neg (by simp)]
theorem Abs {m:Market} {i:Nat} (hi:1 <<< m.houses.length ≤ i):Jd m i = []:=by
 unfold Jd; rw [show 1 <<< m.houses.length - i = 0 by omega]; rfl
/-- One more set: the fewest so far,and all that have so many. -/
def Im (a:Nat × List Nat) (x:Nat):Nat × List Nat :=
 if a.2 = []∨De x < a.1 then (De x,[x]) else if De x = a.1 then (a.1,a.2 ++ [x]) else a
def chF (l:List Nat):Nat × List Nat:=l.foldl Im (0,[])
theorem Ji {l:List Nat} {x:Nat}:chF (l ++ [x]) = Im (chF l) x:=by unfold chF; rw [List.foldl_append]; rfl
theorem Ajc {α:Type} {P:List α→Prop} (h0:P []) (h1:∀ l x,P l→P (l ++ [x])) (l:List α):P l:=by
 have h:∀ l:List α,P l.reverse:=fun l=>by
  induction l with
  | nil=>exact h0
  | cons a l ih=>rw [List.reverse_cons]; exact h1 _ _ ih
 have:=h l.reverse
 rwa [List.reverse_reverse] at this
theorem Tf (l:List Nat):(l = []∧chF l = (0,[]))∨(l ≠ []∧(∀ x ∈ l,(chF l).1 ≤ De x)∧(chF l).2 = l.filter (fun x=>De x == (chF l).1)∧(chF l).2 ≠ []):=by
 refine Ajc (P:=fun l=>(l = []∧chF l = (0,[]))∨(l ≠ []∧(∀ x ∈ l,(chF l).1 ≤ De x)∧(chF l).2 = l.filter (fun x=>De x == (chF l).1)∧(chF l).2 ≠ [])) (Or.inl ⟨rfl,rfl⟩) (fun l x ih=>?_) l
 ·right
  rw [Ji]
  refine ⟨by simp,?_⟩
  rcases ih with ⟨rfl,h⟩ | ⟨h1,h2,h3,h4⟩
  ·rw [h]
   simp [Im]
  ·unfold Im
   by_cases hlt:De x < (chF l).1
   ·rw [if_pos (.inr hlt)]
    refine ⟨fun y hy=>?_,?_,by simp⟩
    ·rcases List.mem_append.1 hy with hy | hy
     ·have:=h2 y hy; simp only; omega
     ·rw [List.mem_singleton.1 hy]; exact Nat.le_refl _
    ·rw [List.filter_append,List.filter_eq_nil_iff.2 fun y hy=>by have:=h2 y hy; simp; omega]
     simp
   ·rw [if_neg (by simp only [not_or]; exact ⟨h4,hlt⟩)]
    by_cases he:De x = (chF l).1
    ·rw [if_pos he]
     refine ⟨fun y hy=>?_,?_,by simp⟩
     ·rcases List.mem_append.1 hy with hy | hy
      ·exact h2 y hy
      ·rw [List.mem_singleton.1 hy,he]; exact Nat.le_refl _
     ·rw [List.filter_append,← h3]; simp [he]
    ·rw [if_neg he]
     refine ⟨fun y hy=>?_,?_,h4⟩
     ·rcases List.mem_append.1 hy with hy | hy
      ·exact h2 y hy
      ·rw [List.mem_singleton.1 hy]; omega
     ·rw [List.filter_append,← h3]; simp [he]
theorem Mm {m:Market} {n:Nat}:lv m n = (Fk m).filter (fun x=>De x == n):=by
 unfold lv Ani Fk; rw [List.filter_filter]
theorem Sg {s:Nat × List Nat} {x:Nat} (h:s.2 = []∨De x < s.1):Im s x = (De x,[x]):=by unfold Im; rw [if_pos h]
theorem Yd {s:Nat × List Nat} {x:Nat} (h1:(uws s.2).length ≠ 0) (h2:¬ De x < s.1) (h3:De x = s.1):Im s x = (s.1,s.2 ++ [x]):=by
 unfold Im; rw [if_neg,if_pos h3]
 rintro (h | h)
 ·rw [h] at h1; exact h1 rfl
 ·exact h2 h
theorem Ye {s:Nat × List Nat} {x:Nat} (h1:(uws s.2).length ≠ 0) (h2:¬ De x < s.1) (h3:De x ≠ s.1):Im s x = s:=by
 unfold Im; rw [if_neg,if_neg h3]
 rintro (h | h)
 ·rw [h] at h1; exact h1 rfl
 ·exact h2 h
theorem So {l:List Nat} (h:(uws l).length = 0):l = []:=by rw [Xm] at h; exact List.eq_nil_of_length_eq_zero h
theorem Amb {l:List Nat} {x:Nat}:uws l ++ [UW.mk x] = uws (l ++ [x]):=by simp [uws]
theorem Akv {l:List Nat}:∀ a ∈ (chF l).2,a ∈ l:=fun a ha=>by
 rcases Tf l with ⟨_,h⟩ | ⟨_,_,h,_⟩
 ·rw [h] at ha; cases ha
 ·rw [h] at ha; exact (List.mem_filter.1 ha).1
theorem Acy {m:Market} (ok:MarketOk m):chF (Fk m) = (Abc m,lv m (Abc m)):=by
 obtain ⟨n0,hn0,hs0⟩:=Ali ok
 have hne:Fk m ≠ []:=fun h=>by rw [Mm,h] at hs0; cases hs0
 obtain ⟨_,h2,h3,h4⟩:=(Tf (Fk m)).resolve_left fun h=>hne h.1
 rw [← Mm] at h3
 have hle:(chF (Fk m)).1 ≤ n0:=by
  cases h:lv m n0 with
  | nil=>rw [h] at hs0; cases hs0
  | cons a l =>
   have ha:a ∈ lv m n0:=by rw [h]; exact List.mem_cons_self ..
   rw [Mm,List.mem_filter] at ha
   have:=h2 a ha.1
   have h5:De a = n0:=by simpa using ha.2
   omega
 have hN:Abc m = (chF (Fk m)).1:=Ane (by omega) (fun j hj=>by
  rw [Mm,List.filter_eq_nil_iff.2]
  ·rfl
  ·intro a ha hp
   have:=h2 a ha
   have:De a = j:=by simpa using hp
   omega) (by rw [← h3]; exact fun h=>h4 (List.eq_nil_of_length_eq_zero h))
 rw [hN,← h3]
theorem Aku {l:List Nat}:(chF l).2.length ≤ l.length:=by
 rcases Tf l with ⟨_,h⟩ | ⟨_,_,h,_⟩
 ·rw [h]; simp
 ·rw [h]; exact List.length_filter_le _ _
theorem Tm {m:Market} (ok:MarketOk m):∀ a ∈ Fk m,a < 32:=fun a ha=>by
 have h1:=List.mem_range.1 (List.mem_filter.1 ha).1
 have h2:=(Alu (Hn ok)).2
 omega
theorem Yj {m:Market} (ok:MarketOk m):(Fk m).length ≤ 32:=by
 have h1:=List.length_filter_le (Fj m) (List.range (1 <<< m.houses.length))
 have h2:=(Alu (Hn ok)).2
 rw [List.length_range] at h1
 unfold Fk; omega
theorem Yx {σ:Own} {k:Nat} (h:Jp σ):Jp ((k,Res.chan) :: σ):=fun c vs hm=>by
 rcases List.mem_cons.1 hm with e | hm
 ·injection e with _ e; cases e
 ·exact h c vs hm
theorem Aue {σ:Own} {k:Nat} {o:Obj} (h:Jp σ):Jp ((k,Res.obj o) :: σ):=fun c vs hm=>by
 rcases List.mem_cons.1 hm with e | hm
 ·injection e with _ e; cases e
 ·exact h c vs hm
end
section
set_option maxHeartbeats 1000000
open Go
theorem Alp {m:Market} {vg:Value} {c:Nat} {ρ:Ro} (rg:Val ρ vg (⟨m,⟨En m⟩⟩:GMarket)) (ok:MarketOk m):SendI Tryd.prog c (Jd m 0) (Gg Tryd.prog { target:=.fn (.func 49) #[],args:=[vg,.chan (some c)].toArray }) [] ρ []:=by
 have hh5:=Hn ok
 have hsh:=Alu hh5
 refine Alt (n:=20) (tys:=#[170]) (ty:=0) (cn:=#[false]) Tryd.func49 rfl rfl rfl rfl rfl rfl fun Q hret hnor=>Nu fun K1 k1=>Ot (Ge rfl (fun h=>(by cases h)) ?_)
 refine Arv (Eb (v:=vg) rfl fun k2=>?_)
 refine Bb (a:=(⟨m,⟨En m⟩⟩:GMarket)) rg fun ρ2 l2 r2=>Ac ?_
 refine k1 _ _ _ _ _ (Nu fun K3 k3=>Ot (Ge rfl (fun h=>(by cases h)) ?_))
 refine Asf (.chan (some c)) (Add rfl (Xn rfl rfl ?_))
 show Ey _ _ _ _ _ _ _ _ _ _
 apply Ac
 refine k3 _ _ _ _ _ (Nu fun K4 k4=>Ot (Ge rfl (fun h=>(by cases h)) ?_))
 refine Arw (Ay GMarket.f_m Bjk rfl rfl Ln (by decide) rfl r2) fun v5 r5=>Arw (Ay Market.f_houses Bia rfl rfl Hw (by decide) rfl r5) fun v6 r6=>Arw (Ax Hw rfl r6) fun v7 r7=>?_
 have g8:=Bmn r7
 refine l_v (Ci (el:=9) Bic rfl r7) (l_v (Md (p:=1) (q:=m.houses.length) rfl rfl rfl (by omega) (z:=(((1 <<< m.houses.length):Nat):Int)) (Ev (by omega) (by omega))) (Asf (.int .u64 (0)) (Ac ?_)))
 refine k4 _ _ _ _ _ (Aac (Amf (fun mm vv ee dd ρ' σ'=>∃ (x:Nat),(1 <<< m.houses.length - x) = mm∧[Lj c #[170] 0 #[false]] = dd∧ρ2 = ρ'∧[] = σ'∧ee 1 = (.chan (some c))∧ee 2 = (.pointer (some ⟨k2,0,none⟩))∧ee 10 = (.int .u64 ((((1 <<< m.houses.length):Nat):Int)))∧ee 11 = (.int .u64 ((x:Int)))∧(x ≤ 1 <<< m.houses.length)∧(vv = Jd m x)∧True) (m:=_) ⟨0,rfl,rfl,rfl,rfl,rfl,rfl,rfl,rfl,(Nat.zero_le _),rfl,trivial⟩ ?_))
 rintro m9 vv e9 _ _ _ ⟨x,rfl,rfl,rfl,rfl,h9_1,h9_2,h9_10,h9_11,p9_0,p9_1,_⟩
 refine Nu fun K10 k10=>Ot (Ge rfl (fun h=>(by cases h)) ?_)
 refine l_v (Da h9_11 h9_10) (Ac ?_)
 refine k10 _ _ _ _ _ (Nu fun K11 k11=>Adx (t:=decide ((x:Int) < (((1 <<< m.houses.length):Nat):Int))) rfl (fun b12=>?_) (fun b12=>?_))
 ·have q12:=of_decide_eq_true b12
  refine Ady (k11 _ _ _ _ _ (Nu fun K13 k13=>Aac (Nu fun K14 k14=>Ot (Ge rfl (fun h=>(by cases h)) ?_))))
  refine l_v (Ah (v:=(.int .u64 ((x:Int)))) h9_11) (Lo (.int .u64 ((x:Int))) (Ac ?_))
  refine k14 _ _ _ _ _ (Nu fun K15 k15=>Ot (Ge rfl (fun h=>(by cases h)) ?_))
  refine Arw (Ax Wk h9_2 r2) fun v16 r16=>Asf (.int .u64 ((x:Int))) (Arv (Bm (Agz (set:=x) r16 ok (by omega)) Tryd.func74 rfl rfl ⟨rfl,rfl,trivial⟩ ?_))
  apply Ac
  refine k15 _ _ _ _ _ (Adx (t:=Fj m x) rfl (fun b17=>?_) (fun b17=>?_))
  ·rw [p9_1,Aiz (by omega) b17]
   refine Acd (Ih rfl) (fun h=>(by cases h)) (Amq rfl (fun _ h=>(by cases h)) (Ah (v:=(.chan (some c))) h9_1) (Amq rfl (fun _ h=>(by cases h)) (Ah (v:=(.int .u64 ((x:Int)))) rfl) (Anp rfl rfl rfl (Aqd (k13 _ _ _ _ _ (Ot (Ge rfl (fun h=>(by cases h)) ?_)))))))
   refine l_v (Br h9_11 rfl (z:=(((x + 1):Nat):Int)) ((Ev (by omega) (by omega)).trans (by push_cast; rfl))) (Asf (.int .u64 ((((x + 1):Nat):Int))) (Ac ?_))
   refine ⟨_,?_,((x + 1)),rfl,rfl,rfl,rfl,h9_1,h9_2,h9_10,rfl,(by omega),(by rfl),trivial⟩
   omega
  refine Ady (k13 _ _ _ _ _ (Ot (Ge rfl (fun h=>(by cases h)) ?_)))
  refine l_v (Br h9_11 rfl (z:=(((x + 1):Nat):Int)) ((Ev (by omega) (by omega)).trans (by push_cast; rfl))) (Asf (.int .u64 ((((x + 1):Nat):Int))) (Ac ?_))
  refine ⟨_,?_,((x + 1)),rfl,rfl,rfl,rfl,h9_1,h9_2,h9_10,rfl,(by omega),(p9_1.trans (Aiy (by omega) b17)),trivial⟩
  omega
 have q12:=of_decide_eq_false b12
 refine Ame ?_
 rw [p9_1,Abs (by omega)]
 exact hnor _ _ _
end
section
set_option maxHeartbeats 1000000
open Go
set_option maxHeartbeats 1000000 in
theorem Agt  {ρ:Ro} {σ:Own} {m:Market} {vm:Value} (rm:Val ρ vm m) (hnr:Jp σ):CallsH (CX true (Ade Tryd.prog)) 19 #[vm] ρ σ (fun w ρ' σ'=>Ro.le ρ ρ'∧σ' = σ∧∃ v0,w = (.tuple #[(iV (Akw m)),v0,(iV (Cf m))])∧Val ρ' v0 (Akx m:List Int)):=by
 refine Bh (n:=60) (args:=[vm]) [2,3,4] Tryd.func19 rfl rfl rfl rfl fun Q hret hnor=>w_q rfl rfl fun K1 k1=>Arv (Eb (v:=vm) rfl fun k2=>?_)
 refine Bb (a:=m) rm fun ρ2 l2 r2=>Lo (iV (0)) (Lo (nS) (Lo (iV (0)) (Ary rfl rfl k1 fun K3 K4 k3 k4=>Arw (Ax Ln rfl r2) fun v5 r5=>Arv (Bm (Js r5) Bll rfl rfl ⟨rfl,trivial⟩ ?_))))
 refine Lo (iV (Cf m)) (Arx rfl rfl k4 fun K6 k6=>Asf (iV (Cf m)) (l_v (Dg rfl rfl) (l_k k6 (Asg (t:=Cf m != 0) rfl (fun b7=>?_) (fun b7=>?_)))))
 ·have q7:=Ls b7
  refine w_q rfl rfl fun K8 k8=>Asf (iV (Cf m)) (Lo (iV (0)) (Lo (nS) (Lo (iV (Cf m)) (l_k k8 (Aq (hret _ _ _ (⟨l2,rfl,(nS),Eq.trans (b:=(.tuple #[(iV (0)),(nS),(iV (Cf m))])) (Mp (r:=2) (r':=3) (rs:=[4]) (v:=(iV (0))) (v':=(nS)) (vs:=[(iV (Cf m))]) ⟨rfl,rfl,rfl,trivial⟩) ?_,Val.cast ?_ Gx⟩)))))))
  ·rw [Akw,if_neg q7]
  ·rw [Akx,if_neg q7]
 have hm0:=Jh b7
 have ok:=Rg hm0
 have hh5:=Hn ok
 have hel:=Yj ok
 have q7:=Jh b7
 refine Al (k3 _ _ _ _ ?_)
 refine w_q rfl rfl fun K9 k9=>Arv (Aca Blo (Ab Bko) rfl fun k10=>?_)
 refine Lo (.chan (some k10)) (Asa k9 fun K11 k11=>Agh 5 [0,1,2,3,4] (by kernel_rfl) rfl rfl ⟨_,rfl⟩ (by kernel_rfl) (by kernel_rfl) fun KG12 kg12=>Asj 0 [o1,o0,o0,o0,o0] rfl (Ax Ln rfl r2) fun v13 r13=>Asj 1 [o1,o1,o0,o0,o0] rfl (Ax Ln rfl r2) fun v14 r14=>Ash 4 [o1,o1,o0,o0,o1] rfl (Ah (v:=(.chan (some k10))) rfl) (Asm 2 [o1,o1,o1,o0,o1] rfl (Cm (vs:=[v14]) (Td r14 ok) Blm rfl rfl ⟨rfl,trivial⟩ fun v15 ρ15 σ15 hc15=>?_)))
 obtain ⟨l15,s15,r15⟩:=hc15
 replace s15:=s15.symm; subst s15
 replace r2:=Bmg l15 r2
 replace r13:=Bmo l15 r13
 refine ⟨l15,?_⟩
 refine Atv 3 [o1,o1,o1,o1,o1] rfl l15 rfl (Rt rfl r13 rfl r15) fun v16 r16=>Ec rfl (kg12 _ _ _ _ (Ars (P:=Tryd.prog) (i:=0) (ch:=k10) (vs:=(Fk m).map (fun x:Nat=>Value.int .u64 (x:Int))) (df:={ target:=.fn (.func 49) #[],args:=[v16,(.chan (some k10))].toArray }) rfl ?_ ⟨_,_,rfl⟩ (Yx hnr) rfl (by rw [← Aix]; exact Alp r16 ok) ?_))
 ·exact Ang ⟨rfl,rfl,trivial⟩
 refine Arx rfl rfl k11 fun K17 k17=>Lo (nS) (Ary rfl rfl k17 fun K18 K19 k18 k19=>Asf (.chan (some k10)) (l_k k19 (Ao (Cc (fun mm ee dd ρ' σ'=>∃ (done:List Nat) (xs:List Nat) (f:Nat) (ov20_7:Value) (og20_7:Own),(xs.length) = mm∧[] = dd∧Ro.le ρ15 ρ'∧(og20_7 ++ ((k10,Res.recv (xs.map (fun x:Nat=>Value.int .u64 (x:Int)))) :: σ)) = σ'∧ee 1 = (.pointer (some ⟨k2,0,none⟩))∧ee 3 = (nS)∧ee 22 = (.chan (some k10))∧ee 2 = (iV ((f:Int)))∧ee 7 = ov20_7∧(Fk m = done ++ xs)∧(f = (chF done).1)∧Grow ρ' 128 ov20_7 (uws (chF done).2) og20_7∧True) (m:=_) ⟨[],Fk m,0,(nS),[],rfl,rfl,Bml,rfl,rfl,rfl,rfl,rfl,rfl,rfl,rfl,Hm,trivial⟩ ?_))))
 rintro m20 e20 _ ρ20 _ ⟨done,xs,f,ov20_7,og20_7,rfl,rfl,l20,rfl,h20_1,h20_3,h20_22,h20_2,h20_7,p20_0,p20_1,OG20_7,_⟩
 replace r2:=Bmg l20 r2
 have hdl:done.length ≤ 32:=by (have h1:=congrArg List.length p20_0); rw [List.length_append] at h1; omega
 have hcl:=Aku (l:=done)
 have hul:=Xm (xs:=(chF done).2)
 refine w_q rfl rfl fun K21 k21=>Bj (Bmj Asd) ?_
 rcases xs with _ | ⟨x,ys⟩
 ·refine Afb (P:=Tryd.prog) (i:=0) rfl Blo Aai h20_22 rfl (l_v (Bk (vs:=#[(.int .u64 (0)),(.bool (false))]) rfl (v:=(.bool (false))) rfl) (Asa k21 fun K22 k22=>Cg rfl rfl (Bx (k18 _ _ _ _ ?_))))
  refine Asb rfl rfl fun K23 K24 k23 k24=>Arw (Ay Market.f_houses Bia rfl rfl Hw (by decide) h20_1 r2) fun v25 r25=>Arw (Ax Hw rfl r25) fun v26 r26=>?_
  have g27:=Bmn r26
  refine l_v (Ci (el:=9) Bic rfl r26) (Asf (iV (0)) (l_k k24 (Ao (Hc OG20_7 fun ρ28 l28 r28=>?_))))
  have hde:done = Fk m:=by rw [p20_0,List.append_nil]
  refine Cc (fun mm ee dd ρ' σ'=>∃ (h:Nat) (ov29_3:Value) (og29_3:Own),(m.houses.length - h) = mm∧[] = dd∧Ro.le ρ28 ρ'∧(og29_3 ++ σ) = σ'∧ee 2 = (iV ((f:Int)))∧ee 7 = ov20_7∧ee 46 = (iV (((m.houses.length:Nat):Int)))∧ee 3 = ov29_3∧ee 47 = (iV ((h:Int)))∧(h ≤ m.houses.length)∧Grow ρ' 83 ov29_3 ((List.range h).map (Po (chF done).2)) og29_3∧True) (m:=_) ⟨0,(nS),[],rfl,rfl,Bml,rfl,h20_2,h20_7,rfl,h20_3,rfl,(Nat.zero_le _),Hm,trivial⟩ ?_
  rintro m29 e29 _ ρ29 _ ⟨h,ov29_3,og29_3,rfl,rfl,l29,rfl,h29_2,h29_7,h29_46,h29_3,h29_47,p29_0,OG29_3,_⟩
  replace r28:=Bmo l29 r28
  refine w_q rfl rfl fun K30 k30=>l_v (Da h29_47 h29_46) (Asa k30 fun K31 k31=>Asg (t:=decide ((h:Int) < ((m.houses.length:Nat):Int))) rfl (fun b32=>?_) (fun b32=>?_))
  ·have q32:=of_decide_eq_true b32
   refine Al (k31 _ _ _ _ ?_)
   refine Ai fun K33 k33=>Ao (w_q rfl rfl fun K34 k34=>l_v (Ah (v:=(iV ((h:Int)))) h29_47) (Arv (Ct zr3 fun k35=>?_)))
   refine Cx rfl (Dv (v:=(iV ((h:Int)))) (a:=(h:Int)) (c:=zc3) ty3 rfl rfl (Cv.2 ⟨rfl,by constructor <;> omega⟩) rfl ?_)
   refine Bb (a:=(h:Int)) (Cv.2 ⟨rfl,by constructor <;> omega⟩) fun ρ36 l36 r36=>?_
   replace r28:=Bmo l36 r28
   replace OG29_3:=Bmk l36 OG29_3
   refine l_k k34 (Ag rfl rfl (l_v (Ah (v:=ov29_3) h29_3) (l_v (Ah (v:=ov20_7) h29_7) (Arv (Cm (vs:=[ov20_7]) (Agw r28) Tryd.func52 rfl rfl ⟨rfl,trivial⟩ fun v37 ρ37 σ37 hc37=>?_)))))
   obtain ⟨l37,s37,r37⟩:=hc37
   replace s37:=s37.symm; subst s37
   replace OG29_3:=Bmk l37 OG29_3
   replace r36:=Bmg l37 r36
   refine l_v (Il (fn:=.func 53) (caps:=[.tmp 10]) (vs:=[(.pointer (some ⟨k35,0,none⟩))]) ⟨rfl,trivial⟩) ?_
   have hj38:=Yr (p:=fun x=>Cu x h) (xs:=(chF done).2)
   refine Arv (Bm (Ael (q:=fun x=>Cu x h) r37 (Apv r36 (by omega)) (fun a ha=>Nat.lt_trans (Tm ok a (hde ▸ Akv a ha)) (by omega)) (fun x=>rfl)) Tryd.func51 rfl rfl ⟨rfl,rfl,trivial⟩ ?_)
   refine Arv (Bi (α:=Int) (xs:=[Ga (fun x=>Cu x h) ((chF done).2)]) (vs:=[(iV (Ga (fun x=>Cu x h) ((chF done).2)))]) Bil Pi Acl rfl (by decide) (Dk (os:=[.tmp 54]) ⟨rfl,trivial⟩) ⟨(Cv.2 ⟨rfl,by constructor <;> omega⟩),trivial⟩ rfl (by decide) fun k39 cs39 R39=>?_)
   have G39:Grow ρ37 83 (.slice (some ⟨k39,0,none⟩) 1 1) ([Ga (fun x=>Cu x h) ((chF done).2)]:List Int) [(k39,oC cs39.toArray 83)]:=Bs R39 rfl (by decide)
   refine Ca G39 fun ρ41 l41 r41=>?_
   replace OG29_3:=Bmk l41 OG29_3
   refine Arv (Gc (σ:=σ) (gr:=og29_3) (xs:=(List.range h).map (Po (chF done).2)) (ys:=([Ga (fun x=>Cu x h) ((chF done).2)]:List Int)) Bil Bil (Ab Blg) rfl (Nat.le_of_ble_eq_true rfl) rfl rfl rfl rfl OG29_3 r41 (by simp only [List.length_append,List.length_cons,List.length_nil,List.length_map,List.length_range] at *; omega) fun v40 gr40 G40=>?_)
   refine Lo v40 (l_k k33 (Ag rfl rfl (l_v (Br h29_47 rfl (z:=(((h + 1):Nat):Int)) wrE) (Asf (iV ((((h + 1):Nat):Int))) (Ac ?_)))))
   refine ⟨_,?_,((h + 1)),v40,gr40,rfl,rfl,(Bmm (Bmm (Bmm l29 l36) l37) l41),rfl,h29_2,h29_7,h29_46,rfl,rfl,(by omega),(Fy (by rw [Nj,Ys]) G40),trivial⟩
   omega
  have q32:=of_decide_eq_false b32
  refine Bx (k23 _ _ _ _ ?_)
  refine w_q rfl rfl fun K42 k42=>l_v (Ah (v:=(iV ((f:Int)))) h29_2) (l_v (Ah (v:=ov29_3) h29_3) (Lo (iV ((f:Int))) (Lo ov29_3 (Lo (iV (0)) (l_k k42 (Hc OG29_3 fun ρ43 l43 r43=>Aq (hret _ _ _ (⟨(Bmm (Bmm (Bmm (Bmm (Bmm l2 l15) l20) l28) l29) l43),rfl,ov29_3,Eq.trans (b:=(.tuple #[(iV ((f:Int))),ov29_3,(iV (0))])) (Mp (r:=2) (r':=3) (rs:=[4]) (v:=(iV ((f:Int)))) (v':=ov29_3) (vs:=[(iV (0))]) ⟨rfl,rfl,rfl,trivial⟩) ?_,Val.cast ?_ r43⟩))))))))
  ·rw [Akw,if_pos hm0,p20_1,hde,Acy ok,hm0]
  ·rw [Akx,if_pos hm0,App,show h = m.houses.length by omega,hde,Acy ok]
 refine Anh (P:=Tryd.prog) (i:=0) (v:=(.int .u64 ((x:Nat):Int))) (vs:=ys.map (fun x:Nat=>Value.int .u64 (x:Int))) rfl Blo Aai h20_22 rfl ?_
 have hx32:=Tm ok x (by rw [p20_0]; simp)
 refine l_v (Bk (vs:=#[(.int .u64 ((x:Int))),(.bool (true))]) rfl (v:=(.bool (true))) rfl) (Asa k21 fun K44 k44=>Co rfl rfl (Al (k44 _ _ _ _ ?_)))
 refine Ao (w_q rfl rfl fun K45 k45=>l_v (Bk (vs:=#[(.int .u64 ((x:Int))),(.bool (true))]) rfl (v:=(.int .u64 ((x:Int)))) rfl) (Lo (.int .u64 ((x:Int))) (Arx rfl rfl k45 fun K46 k46=>Asf (.int .u64 ((x:Int))) (Arv (Bm (Anc (x:=x) (by omega)) Tryd.func50 rfl rfl ⟨rfl,trivial⟩ ?_)))))
 refine Lo (iV ((((De x):Nat):Int))) (Ary rfl rfl k46 fun K47 K48 k47 k48=>l_v (Ah (v:=ov20_7) h20_7) ?_)
 have g49:=Grow.len OG20_7
 refine l_v (Ajw (el':=128) Bjc rfl OG20_7) (l_v (Ek rfl rfl) (Asf (.bool ((((uws (chF done).2).length:Nat):Int) == 0)) (Cn ((((uws (chF done).2).length:Nat):Int) == 0) (fun b50=>?_) (fun b50=>?_))))
 ·have q50:=Jr b50
  refine Ap (gN rfl b50) (Ap (gN rfl b50) (Ap (gN rfl b50) (l_v (Bt rfl b50 (v:=(.bool (true))) rfl) (l_k k48 (Co rfl rfl (Ag rfl rfl (Asf (iV ((((De x):Nat):Int))) (Lo (nS) (Lo (iV ((((De x):Nat):Int))) (Arx rfl rfl k47 fun K51 k51=>Asf (iV ((((De x):Nat):Int))) (Asf (iV ((((De x):Nat):Int))) (l_v (Ek rfl rfl) (l_k k51 (Co rfl (beq_self_eq_true _) (Ag rfl rfl (Asf (nS) (Asf (.int .u64 ((x:Int))) (Arv (Bi (α:=UW) (xs:=[(UW.mk x)]) (vs:=[(.int .u64 ((x:Int)))]) Bjc Zt Aai rfl (by decide) (Dk (os:=[.tmp 41]) ⟨rfl,trivial⟩) ⟨(Rq.2 rfl),trivial⟩ rfl (by decide) fun k52 cs52 R52=>?_)))))))))))))))))))
  have G52:Grow ρ20 128 (.slice (some ⟨k52,0,none⟩) 1 1) ([(UW.mk x)]:List UW) [(k52,oC cs52.toArray 128)]:=Bs R52 rfl (by decide)
  refine Ca G52 fun ρ54 l54 r54=>?_
  replace OG20_7:=Bmk l54 OG20_7
  refine Arv (Gc (σ:=((k10,Res.recv (ys.map (fun x:Nat=>Value.int .u64 (x:Int)))) :: (og20_7 ++ σ))) (gr:=[]) (xs:=[]) (ys:=([(UW.mk x)]:List UW)) Bjc Bjc (Ab Bko) rfl (Nat.le_of_ble_eq_true rfl) rfl rfl rfl rfl (Hm (α:=UW) (el:=128)) r54 (by simp only [List.length_append,List.length_cons,List.length_nil,List.length_map,List.length_range] at *; omega) fun v53 gr53 G53=>?_)
  refine Lo v53 (Bj (Bmj ((p_a Asc).trans Ase)) (Ca OG20_7 fun ρ55 l55 r55=>?_))
  replace G53:=Bmk l55 G53
  apply Ac
  refine ⟨_,?_,((done ++ [x])),(ys),((De x)),v53,gr53,rfl,rfl,(Bmm (Bmm l20 l54) l55),rfl,h20_1,h20_3,h20_22,rfl,rfl,(by rw [p20_0,List.append_assoc]; rfl),(by rw [Ji,Sg (by first | exact .inl (So (by omega)) | exact .inr (by omega))]),(Fy (by rw [Ji,Sg (by first | exact .inl (So (by omega)) | exact .inr (by omega))]; rfl) G53),trivial⟩
  exact Nat.lt_succ_self _
 have q50:=Jq b50
 refine l_M (iV ((((De x):Nat):Int))) (gY rfl b50) rfl (Aa (gY rfl b50) (Ah (v:=(iV ((f:Int)))) h20_2) (Aa (gY rfl b50) (Da rfl rfl) (l_v (Bn rfl b50 (v:=(.bool (decide ((((De x):Nat):Int) < (f:Int))))) rfl) (l_k k48 (Asg (t:=decide ((((De x):Nat):Int) < (f:Int))) rfl (fun b56=>?_) (fun b56=>?_))))))
 ·have q56:=of_decide_eq_true b56
  refine Ag rfl rfl (Asf (iV ((((De x):Nat):Int))) (Lo (nS) (Lo (iV ((((De x):Nat):Int))) (Arx rfl rfl k47 fun K57 k57=>Asf (iV ((((De x):Nat):Int))) (Asf (iV ((((De x):Nat):Int))) (l_v (Ek rfl rfl) (l_k k57 (Co rfl (beq_self_eq_true _) (Ag rfl rfl (Asf (nS) (Asf (.int .u64 ((x:Int))) (Arv (Bi (α:=UW) (xs:=[(UW.mk x)]) (vs:=[(.int .u64 ((x:Int)))]) Bjc Zt Aai rfl (by decide) (Dk (os:=[.tmp 41]) ⟨rfl,trivial⟩) ⟨(Rq.2 rfl),trivial⟩ rfl (by decide) fun k58 cs58 R58=>?_)))))))))))))
  have G58:Grow ρ20 128 (.slice (some ⟨k58,0,none⟩) 1 1) ([(UW.mk x)]:List UW) [(k58,oC cs58.toArray 128)]:=Bs R58 rfl (by decide)
  refine Ca G58 fun ρ60 l60 r60=>?_
  replace OG20_7:=Bmk l60 OG20_7
  refine Arv (Gc (σ:=((k10,Res.recv (ys.map (fun x:Nat=>Value.int .u64 (x:Int)))) :: (og20_7 ++ σ))) (gr:=[]) (xs:=[]) (ys:=([(UW.mk x)]:List UW)) Bjc Bjc (Ab Bko) rfl (Nat.le_of_ble_eq_true rfl) rfl rfl rfl rfl (Hm (α:=UW) (el:=128)) r60 (by simp only [List.length_append,List.length_cons,List.length_nil,List.length_map,List.length_range] at *; omega) fun v59 gr59 G59=>?_)
  refine Lo v59 (Bj (Bmj ((p_a Asc).trans Ase)) (Ca OG20_7 fun ρ61 l61 r61=>?_))
  replace G59:=Bmk l61 G59
  apply Ac
  refine ⟨_,?_,((done ++ [x])),(ys),((De x)),v59,gr59,rfl,rfl,(Bmm (Bmm l20 l60) l61),rfl,h20_1,h20_3,h20_22,rfl,rfl,(by rw [p20_0,List.append_assoc]; rfl),(by rw [Ji,Sg (by first | exact .inl (So (by omega)) | exact .inr (by omega))]),(Fy (by rw [Ji,Sg (by first | exact .inl (So (by omega)) | exact .inr (by omega))]; rfl) G59),trivial⟩
  exact Nat.lt_succ_self _
 have q56:=of_decide_eq_false b56
 refine Al (k47 _ _ _ _ ?_)
 refine w_q rfl rfl fun K62 k62=>Asf (iV ((((De x):Nat):Int))) (l_v (Ah (v:=(iV ((f:Int)))) h20_2) (l_v (Ek rfl rfl) (l_k k62 (Asg (t:=(((De x):Nat):Int) == (f:Int)) rfl (fun b63=>?_) (fun b63=>?_)))))
 ·have q63:=Jr b63
  refine Ag rfl rfl (l_v (Ah (v:=ov20_7) h20_7) (Asf (.int .u64 ((x:Int))) (Arv (Bi (α:=UW) (xs:=[(UW.mk x)]) (vs:=[(.int .u64 ((x:Int)))]) Bjc Zt Aai rfl (by decide) (Dk (os:=[.tmp 41]) ⟨rfl,trivial⟩) ⟨(Rq.2 rfl),trivial⟩ rfl (by decide) fun k64 cs64 R64=>?_))))
  have G64:Grow ρ20 128 (.slice (some ⟨k64,0,none⟩) 1 1) ([(UW.mk x)]:List UW) [(k64,oC cs64.toArray 128)]:=Bs R64 rfl (by decide)
  refine Ca G64 fun ρ66 l66 r66=>?_
  replace OG20_7:=Bmk l66 OG20_7
  refine Bj (Bmj Asc) (Arv (Gc (σ:=((k10,Res.recv (ys.map (fun x:Nat=>Value.int .u64 (x:Int)))) :: σ)) (gr:=og20_7) (xs:=uws (chF done).2) (ys:=([(UW.mk x)]:List UW)) Bjc Bjc (Ab Bko) rfl (Nat.le_of_ble_eq_true rfl) rfl rfl rfl rfl OG20_7 r66 (by simp only [List.length_append,List.length_cons,List.length_nil,List.length_map,List.length_range] at *; omega) fun v65 gr65 G65=>?_))
  refine Lo v65 (Ac ?_)
  refine ⟨_,?_,((done ++ [x])),(ys),(f),v65,gr65,rfl,rfl,(Bmm l20 l66),rfl,h20_1,h20_3,h20_22,h20_2,rfl,(by rw [p20_0,List.append_assoc]; rfl),(by rw [Ji,Yd (by omega) (by omega) (by omega)]; exact p20_1),(Fy (by rw [Ji,Yd (by omega) (by omega) (by omega)]; exact Amb) G65),trivial⟩
  exact Nat.lt_succ_self _
 have q63:=Jq b63
 refine Aj (Bmj Asc) (Al (⟨_,?_,((done ++ [x])),(ys),(f),ov20_7,og20_7,rfl,rfl,l20,rfl,h20_1,h20_3,h20_22,h20_2,h20_7,(by rw [p20_0,List.append_assoc]; rfl),(by rw [Ji,Ye (by omega) (by omega) (by omega)]; exact p20_1),(Fy (by rw [Ji,Ye (by omega) (by omega) (by omega)]) OG20_7),trivial⟩))
 exact Nat.lt_succ_self _
end
section
set_option maxHeartbeats 1000000
open Go
def rsT:List Found:=[⟨0,false⟩,⟨2,true⟩]
def m1T:List Span:=[⟨12,14⟩,⟨6,7⟩]
def m2T:List Span:=[⟨25,25⟩,⟨6,6⟩]
theorem tF:Cw Tv rsT = 0:=by decide +kernel
theorem tB:Sf Tv rsT = [2,1,0]:=by decide +kernel
theorem tF2:Cw Tv [] = 0:=by decide +kernel
theorem tTD:Zr Tv [] = 3:=by decide +kernel
theorem tTB:Zq Tv [] = true:=by decide +kernel
theorem tTL:Zs Tv [] = [⟨0,-1,1⟩,⟨1,-1,2⟩,⟨2,-1,-1⟩]:=by decide +kernel
theorem tMF:Cf Fd = 0:=by decide +kernel
theorem tEG:Ahr Fd = 30:=by decide +kernel
theorem tEL:Ahs Fd = [0,1]:=by decide +kernel
theorem tCI:Akw Fd = 1:=by decide +kernel
theorem tCL:Akx Fd = [2,1,2]:=by decide +kernel
theorem tOF:Sm Fd m1T = 0:=by decide +kernel
theorem tOL:Sn Fd m1T = [0]:=by decide +kernel
theorem tAF:Ee Fd m2T = 0:=by decide +kernel
theorem tBO:Qw Fd m2T = some (0,1,25):=by decide +kernel
theorem tBV:Qx Fd m2T = .tuple #[z0,.int .i64 1,.int .i64 25,.bool true,z0]:=by
 unfold Qx; rw [if_pos tAF,tBO]; rfl
section
variable {mn:Bool} {X:Frame→List Frame→Ro→Own→Cy→Prop} {ρ:Ro} {σ:Own}
theorem Aay {vl vr:Value} (hg:Glob ρ) (rl:Val ρ vl Tv) (rr:Val ρ vr rsT):CallsH (CX mn X) 16 #[vl,vr] ρ σ (fun w ρ' σ'=>Ro.le ρ ρ'∧σ' = σ∧∃ v0,w = .tuple #[v0,z0]∧Val ρ' v0 ([2,1,0]:List Int)):=by
 have h:=Aee (mn:=mn) (X:=X) (σ:=σ) hg rl rr; rw [tF,tB] at h; exact h
theorem Ako {vl vr:Value} (hg:Glob ρ) (rl:Val ρ vl Tv) (rr:Val ρ vr ([]:List Found)):CallsH (CX mn X) 17 #[vl,vr] ρ σ (fun w ρ' σ'=>Ro.le ρ ρ'∧σ' = σ∧∃ v0,w = .tuple #[v0,.int .i64 3,.bool true,z0]∧Val ρ' v0 ([⟨0,-1,1⟩,⟨1,-1,2⟩,⟨2,-1,-1⟩]:List FNode)):=by
 have h:=Amz (mn:=mn) (X:=X) (σ:=σ) hg rl rr; rw [tF2,tTD,tTB,tTL] at h; exact h
theorem Aei {vm:Value} (rm:Val ρ vm Fd):CallsH (CX mn X) 18 #[vm] ρ σ (fun w ρ' σ'=>Ro.le ρ ρ'∧σ' = σ∧∃ v0,w = .tuple #[.int .i64 30,v0,z0]∧Val ρ' v0 ([0,1]:List Int)):=by
 have h:=Aeh (mn:=mn) (X:=X) (σ:=σ) rm; rw [tMF,tEG,tEL] at h; exact h
theorem Aef {vm:Value} (rm:Val ρ vm Fd) (hnr:Jp σ):CallsH (CX true (Ade Tryd.prog)) 19 #[vm] ρ σ (fun w ρ' σ'=>Ro.le ρ ρ'∧σ' = σ∧∃ v0,w = .tuple #[.int .i64 1,v0,z0]∧Val ρ' v0 ([2,1,2]:List Int)):=by
 have h:=Agt (σ:=σ) rm hnr; rw [tMF,tCI,tCL] at h; exact h
theorem Aek {vm vk:Value} (rm:Val ρ vm Fd) (rk:Val ρ vk m1T):CallsH (CX mn X) 20 #[vm,vk] ρ σ (fun w ρ' σ'=>Ro.le ρ ρ'∧σ' = σ∧∃ v0,w = .tuple #[v0,z0]∧Val ρ' v0 ([0]:List Int)):=by
 have h:=Agu (mn:=mn) (X:=X) (σ:=σ) rm rk; rw [tOF,tOL] at h; exact h
theorem Ags {vm vk:Value} (rm:Val ρ vm Fd) (rk:Val ρ vk m2T):CallsH (CX mn X) 21 #[vm,vk] ρ σ (rP ρ σ (.tuple #[z0,.int .i64 1,.int .i64 25,.bool true,z0])):=by
 have h:=Akn (mn:=mn) (X:=X) (σ:=σ) rm rk; rw [tBV] at h; exact h
end
set_option maxHeartbeats 2000000 in
theorem Auv  {ρ:Ro} {σ:Own}  (hg:Glob ρ) (hnr:Jp σ):CallsH (CX true (Ade Tryd.prog)) 6 #[] ρ σ (rP ρ σ (.bool (true))):=by
 refine Bh (n:=150) (args:=[]) [0] Bkz rfl rfl rfl rfl fun Q hret hnor=>w_q rfl rfl fun K1 k1=>Lo (.bool (false)) (Arx rfl rfl k1 fun K2 k2=>Arv (Cm (vs:=[]) (Amy) Tryd.func14 rfl rfl trivial fun v3 ρ3 σ3 hc3=>?_))
 obtain ⟨l3,s3,r3⟩:=hc3
 replace s3:=s3.symm; subst s3
 replace hg:=Glob.mono l3 hg
 refine Arv (Cm (vs:=[]) (Aej) Tryd.func15 rfl rfl trivial fun v4 ρ4 σ4 hc4=>?_)
 obtain ⟨l4,s4,r4⟩:=hc4
 replace s4:=s4.symm; subst s4
 replace hg:=Glob.mono l4 hg
 replace r3:=Bmo l4 r3
 refine Arv (Ct Aph fun k5=>?_)
 refine Arv (Ct Apg fun k6=>?_)
 refine Bj (Bmj Arz) (Cx rfl (Dv (v:=v3) (a:=Tv) (c:=Amk) Zu rfl rfl r3 rfl ?_))
 refine Bb (a:=Tv) r3 fun ρ7 l7 r7=>?_
 replace hg:=Glob.mono l7 hg
 replace r4:=Bmo l7 r4
 refine Cx rfl (Dv (v:=v4) (a:=Fd) (c:=Amj) Ln rfl rfl r4 rfl ?_)
 refine Bb (a:=Fd) r4 fun ρ8 l8 r8=>?_
 replace hg:=Glob.mono l8 hg
 replace r7:=Bmg l8 r7
 refine Arx rfl rfl k2 fun K9 k9=>Arw (Ax Zu rfl r7) fun v10 r10=>?_
 have r11:Val ρ8 (.agg #[(iV (0)),(.bool (false))]) (⟨0,false⟩:Found):=Found.shut (x:=(⟨0,false⟩:Found)) (show I64 (0) from by constructor <;> omega)
 refine l_v (Dn (ns:=[1,1]) (vs:=[]) (zc:=Aml) (cs:=[(iV (0)),(.bool (false))]) Bkl Akf rfl ⟨⟨_,Ab Bhx,rfl⟩,⟨_,Ab Biw,rfl⟩,trivial⟩ (EvB.map trivial) rfl) ?_
 have r12:Val ρ8 (.agg #[(iV (2)),(.bool (true))]) (⟨2,true⟩:Found):=Found.shut (x:=(⟨2,true⟩:Found)) (show I64 (2) from by constructor <;> omega)
 refine l_v (Dn (ns:=[1,1]) (vs:=[(0,(iV (2))),(1,(.bool (true)))]) (zc:=Aml) (cs:=[(iV (2)),(.bool (true))]) Bkl Akf rfl ⟨⟨_,Ab Bhx,rfl⟩,⟨_,Ab Biw,rfl⟩,trivial⟩ (EvB.map ⟨⟨rfl,rfl⟩,⟨rfl,rfl⟩,trivial⟩) ((Be (cs:=[(iV (2))]) rfl rfl (Nat.le_of_ble_eq_true rfl)).trans ((Be (cs:=[(.bool (true))]) rfl rfl (Nat.le_of_ble_eq_true rfl)).trans rfl))) (Arv (Bi (α:=Found) (xs:=[(⟨0,false⟩:Found),(⟨2,true⟩:Found)]) (vs:=[(.agg #[(iV (0)),(.bool (false))]),(.agg #[(iV (2)),(.bool (true))])]) Bkm Aby Akf rfl (by decide) (Dk (os:=[.tmp 26,.tmp 27]) ⟨rfl,rfl,trivial⟩) ⟨r11,r12,trivial⟩ rfl (by decide) fun k13 cs13 R13=>?_))
 have G13:Grow ρ8 69 (.slice (some ⟨k13,0,none⟩) 2 2) ([(⟨0,false⟩:Found),(⟨2,true⟩:Found)]:List Found) [(k13,oC cs13.toArray 69)]:=Bs R13 rfl (by decide)
 refine Ca G13 fun ρ14 l14 r14=>?_
 replace hg:=Glob.mono l14 hg
 replace r7:=Bmg l14 r7
 replace r8:=Bmg l14 r8
 replace r10:=Bmo l14 r10
 refine Arv (Cm (vs:=[v10,(.slice (some ⟨k13,0,none⟩) 2 2)]) (Aay hg r10 r14) Tryd.func16 rfl rfl ⟨rfl,rfl,trivial⟩ fun w15 ρ15 σ15 hc15=>?_)
 obtain ⟨l15,s15,v15_0,w15e,r15_0⟩:=hc15
 replace s15:=s15.symm; subst s15 w15e
 replace hg:=Glob.mono l15 hg
 replace r7:=Bmg l15 r7
 replace r8:=Bmg l15 r8
 refine Asf (.tuple #[v15_0,(iV (0))]) (l_v (Bk (vs:=#[v15_0,(iV (0))]) rfl (v:=v15_0) rfl) (l_v (Bk (vs:=#[v15_0,(iV (0))]) rfl (v:=(iV (0))) rfl) (Lo v15_0 (Lo (iV (0)) (Arx rfl rfl k9 fun K16 k16=>Arw (Ax Zu rfl r7) fun v17 r17=>Arv (Cm (vs:=[v17,(nS)]) (Ako hg r17 Gx) Tryd.func17 rfl rfl ⟨rfl,rfl,trivial⟩ fun w18 ρ18 σ18 hc18=>?_))))))
 obtain ⟨l18,s18,v18_0,w18e,r18_0⟩:=hc18
 replace s18:=s18.symm; subst s18 w18e
 replace r8:=Bmg l18 r8
 replace r15_0:=Bmo l18 r15_0
 refine Asf (.tuple #[v18_0,(iV (3)),(.bool (true)),(iV (0))]) (l_v (Bk (vs:=#[v18_0,(iV (3)),(.bool (true)),(iV (0))]) rfl (v:=v18_0) rfl) (l_v (Bk (vs:=#[v18_0,(iV (3)),(.bool (true)),(iV (0))]) rfl (v:=(iV (3))) rfl) (l_v (Bk (vs:=#[v18_0,(iV (3)),(.bool (true)),(iV (0))]) rfl (v:=(.bool (true))) rfl) (l_v (Bk (vs:=#[v18_0,(iV (3)),(.bool (true)),(iV (0))]) rfl (v:=(iV (0))) rfl) (Lo v18_0 (Lo (iV (3)) (Lo (.bool (true)) (Lo (iV (0)) (Arx rfl rfl k16 fun K19 k19=>Arw (Ax Ln rfl r8) fun v20 r20=>Arv (Cm (vs:=[v20]) (Aei r20) Tryd.func18 rfl rfl ⟨rfl,trivial⟩ fun w21 ρ21 σ21 hc21=>?_))))))))))
 obtain ⟨l21,s21,v21_0,w21e,r21_0⟩:=hc21
 replace s21:=s21.symm; subst s21 w21e
 replace r8:=Bmg l21 r8
 replace r15_0:=Bmo l21 r15_0
 replace r18_0:=Bmo l21 r18_0
 refine Asf (.tuple #[(iV (30)),v21_0,(iV (0))]) (l_v (Bk (vs:=#[(iV (30)),v21_0,(iV (0))]) rfl (v:=(iV (30))) rfl) (l_v (Bk (vs:=#[(iV (30)),v21_0,(iV (0))]) rfl (v:=v21_0) rfl) (l_v (Bk (vs:=#[(iV (30)),v21_0,(iV (0))]) rfl (v:=(iV (0))) rfl) (Lo (iV (30)) (Lo v21_0 (Lo (iV (0)) (Arx rfl rfl k19 fun K22 k22=>Arw (Ax Ln rfl r8) fun v23 r23=>Arv (Cm (vs:=[v23]) (Aef r23 hnr) Tryd.func19 rfl rfl ⟨rfl,trivial⟩ fun w24 ρ24 σ24 hc24=>?_))))))))
 obtain ⟨l24,s24,v24_0,w24e,r24_0⟩:=hc24
 replace s24:=s24.symm; subst s24 w24e
 replace r8:=Bmg l24 r8
 replace r15_0:=Bmo l24 r15_0
 replace r18_0:=Bmo l24 r18_0
 replace r21_0:=Bmo l24 r21_0
 refine Asf (.tuple #[(iV (1)),v24_0,(iV (0))]) (l_v (Bk (vs:=#[(iV (1)),v24_0,(iV (0))]) rfl (v:=(iV (1))) rfl) (l_v (Bk (vs:=#[(iV (1)),v24_0,(iV (0))]) rfl (v:=v24_0) rfl) (l_v (Bk (vs:=#[(iV (1)),v24_0,(iV (0))]) rfl (v:=(iV (0))) rfl) (Lo (iV (1)) (Lo v24_0 (Lo (iV (0)) (Asa k22 fun K25 k25=>Atd (Asj 0 Ant rfl (Ax Ln rfl r8) fun v26 r26=>Asm 1 Anu rfl (Cm (vs:=[(iV (12)),(iV (14))]) (Hy (a:=12) (b:=14) (by constructor <;> omega) (by constructor <;> omega)) Bjr rfl rfl ⟨rfl,rfl,trivial⟩ fun v27 ρ27 σ27 hc27=>?_)))))))))
 obtain ⟨l27,s27,r27⟩:=hc27
 replace s27:=s27.symm; subst s27
 replace r8:=Bmg l27 r8
 replace r15_0:=Bmo l27 r15_0
 replace r18_0:=Bmo l27 r18_0
 replace r21_0:=Bmo l27 r21_0
 replace r24_0:=Bmo l27 r24_0
 replace r26:=Bmo l27 r26
 refine ⟨l27,?_⟩
 refine Asm 2 Anv rfl (Cm (vs:=[(iV (6)),(iV (7))]) (Hy (a:=6) (b:=7) (by constructor <;> omega) (by constructor <;> omega)) Bjr rfl rfl ⟨rfl,rfl,trivial⟩ fun v28 ρ28 σ28 hc28=>?_)
 obtain ⟨l28,s28,r28⟩:=hc28
 replace s28:=s28.symm; subst s28
 replace r8:=Bmg l28 r8
 replace r15_0:=Bmo l28 r15_0
 replace r18_0:=Bmo l28 r18_0
 replace r21_0:=Bmo l28 r21_0
 replace r24_0:=Bmo l28 r24_0
 replace r26:=Bmo l28 r26
 replace r27:=Bmo l28 r27
 refine ⟨(Bmm l27 l28),?_⟩
 refine Asm 3 Aqw rfl (Bi (α:=Span) (xs:=[(⟨12,14⟩:Span),(⟨6,7⟩:Span)]) (vs:=[v27,v28]) Bis Mx Aak rfl (by decide) (Dk (os:=[.tmp 53,.tmp 54]) ⟨rfl,rfl,trivial⟩) ⟨r27,r28,trivial⟩ rfl (by decide) fun k29 cs29 R29=>⟨(Bmm l27 l28),?_⟩)
 have G29:Grow ρ28 27 (.slice (some ⟨k29,0,none⟩) 2 2) ([(⟨12,14⟩:Span),(⟨6,7⟩:Span)]:List Span) [(k29,oC cs29.toArray 27)]:=Bs R29 rfl (by decide)
 refine Lr G29 fun ρ30 l30 r30=>?_
 replace r8:=Bmg l30 r8
 replace r15_0:=Bmo l30 r15_0
 replace r18_0:=Bmo l30 r18_0
 replace r21_0:=Bmo l30 r21_0
 replace r24_0:=Bmo l30 r24_0
 replace r26:=Bmo l30 r26
 refine Asm 4 Aqx rfl (Cm (vs:=[v26,(.slice (some ⟨k29,0,none⟩) 2 2)]) (Aek r26 r30) Tryd.func20 rfl rfl ⟨rfl,rfl,trivial⟩ fun w31 ρ31 σ31 hc31=>?_)
 obtain ⟨l31,s31,v31_0,w31e,r31_0⟩:=hc31
 replace s31:=s31.symm; subst s31 w31e
 replace r8:=Bmg l31 r8
 replace r15_0:=Bmo l31 r15_0
 replace r18_0:=Bmo l31 r18_0
 replace r21_0:=Bmo l31 r21_0
 replace r24_0:=Bmo l31 r24_0
 refine ⟨(Bmm (Bmm (Bmm l27 l28) l30) l31),?_⟩
 refine Ass 5 Aov rfl (Bmm (Bmm (Bmm l27 l28) l30) l31) rfl (Ah (v:=(.tuple #[v31_0,(iV (0))])) rfl) (Pm (by kernel_rfl) (Bmm (Bmm (Bmm l27 l28) l30) l31) Bml (Ash 6 Anw rfl (Bk (vs:=#[v31_0,(iV (0))]) rfl (v:=v31_0) rfl) (Ash 7 Anx rfl (Bk (vs:=#[v31_0,(iV (0))]) rfl (v:=(iV (0))) rfl) (Asi 8 Anz rfl (Cp (v:=v31_0) rfl) (Asi 9 Aoa rfl (Cp (v:=(iV (0))) rfl) (Ec rfl (k25 _ _ _ _ ?_)))))))
 refine Ai fun K32 k32=>Atd (Asj 0 Ard rfl (Ax Ln rfl r8) fun v33 r33=>Asm 1 Are rfl (Cm (vs:=[(iV (25)),(iV (25))]) (Hy (a:=25) (b:=25) (by constructor <;> omega) (by constructor <;> omega)) Bjr rfl rfl ⟨rfl,rfl,trivial⟩ fun v34 ρ34 σ34 hc34=>?_))
 obtain ⟨l34,s34,r34⟩:=hc34
 replace s34:=s34.symm; subst s34
 replace r15_0:=Bmo l34 r15_0
 replace r18_0:=Bmo l34 r18_0
 replace r21_0:=Bmo l34 r21_0
 replace r24_0:=Bmo l34 r24_0
 replace r31_0:=Bmo l34 r31_0
 replace r33:=Bmo l34 r33
 refine ⟨l34,?_⟩
 refine Asm 2 Arf rfl (Cm (vs:=[(iV (6)),(iV (6))]) (Hy (a:=6) (b:=6) (by constructor <;> omega) (by constructor <;> omega)) Bjr rfl rfl ⟨rfl,rfl,trivial⟩ fun v35 ρ35 σ35 hc35=>?_)
 obtain ⟨l35,s35,r35⟩:=hc35
 replace s35:=s35.symm; subst s35
 replace r15_0:=Bmo l35 r15_0
 replace r18_0:=Bmo l35 r18_0
 replace r21_0:=Bmo l35 r21_0
 replace r24_0:=Bmo l35 r24_0
 replace r31_0:=Bmo l35 r31_0
 replace r33:=Bmo l35 r33
 replace r34:=Bmo l35 r34
 refine ⟨(Bmm l34 l35),?_⟩
 refine Asm 3 Aog rfl (Bi (α:=Span) (xs:=[(⟨25,25⟩:Span),(⟨6,6⟩:Span)]) (vs:=[v34,v35]) Bis Mx Aak rfl (by decide) (Dk (os:=[.tmp 61,.tmp 62]) ⟨rfl,rfl,trivial⟩) ⟨r34,r35,trivial⟩ rfl (by decide) fun k36 cs36 R36=>⟨(Bmm l34 l35),?_⟩)
 have G36:Grow ρ35 27 (.slice (some ⟨k36,0,none⟩) 2 2) ([(⟨25,25⟩:Span),(⟨6,6⟩:Span)]:List Span) [(k36,oC cs36.toArray 27)]:=Bs R36 rfl (by decide)
 refine Lr G36 fun ρ37 l37 r37=>?_
 replace r15_0:=Bmo l37 r15_0
 replace r18_0:=Bmo l37 r18_0
 replace r21_0:=Bmo l37 r21_0
 replace r24_0:=Bmo l37 r24_0
 replace r31_0:=Bmo l37 r31_0
 replace r33:=Bmo l37 r33
 refine Asm 4 Aoh rfl (Bm (Ags r33 r37) Tryd.func21 rfl rfl ⟨rfl,rfl,trivial⟩ ⟨(Bmm (Bmm l34 l35) l37),?_⟩)
 refine Ass 5 Aoi rfl (Bmm (Bmm l34 l35) l37) rfl (Ah (v:=(.tuple #[(iV (0)),(iV (1)),(iV (25)),(.bool (true)),(iV (0))])) rfl) (Pm (by kernel_rfl) (Bmm (Bmm l34 l35) l37) Bml (Ash 6 Aoj rfl (Bk (vs:=#[(iV (0)),(iV (1)),(iV (25)),(.bool (true)),(iV (0))]) rfl (v:=(iV (0))) rfl) (Ash 7 zZ8 rfl (Bk (vs:=#[(iV (0)),(iV (1)),(iV (25)),(.bool (true)),(iV (0))]) rfl (v:=(iV (1))) rfl) (Ash 8 zZ9 rfl (Bk (vs:=#[(iV (0)),(iV (1)),(iV (25)),(.bool (true)),(iV (0))]) rfl (v:=(iV (25))) rfl) (Ash 9 Ajy rfl (Bk (vs:=#[(iV (0)),(iV (1)),(iV (25)),(.bool (true)),(iV (0))]) rfl (v:=(.bool (true))) rfl) (Ash 10 Arg rfl (Bk (vs:=#[(iV (0)),(iV (1)),(iV (25)),(.bool (true)),(iV (0))]) rfl (v:=(iV (0))) rfl) (Asi 11 Arh rfl (Cp (v:=(iV (0))) rfl) (Asi 12 Ajz rfl (Cp (v:=(iV (1))) rfl) (Asi 13 Aka rfl (Cp (v:=(iV (25))) rfl) (Asi 14 Akb rfl (Cp (v:=(.bool (true))) rfl) (Asi 15 Amg rfl (Cp (v:=(iV (0))) rfl) (Ec rfl (k32 _ _ _ _ ?_)))))))))))))
 refine Asb rfl rfl fun K38 K39 k38 k39=>Asf (iV (0)) (l_v (Dg rfl rfl) (Asf (.bool (false)) (l_M (iV (0)) (gY rfl rfl) rfl (Aa (gY rfl rfl) (Dg rfl rfl) (l_v (Bn rfl rfl (v:=(.bool (false))) rfl) (Asf (.bool (false)) (l_M (iV (0)) (gY rfl rfl) rfl (Aa (gY rfl rfl) (Dg rfl rfl) (l_v (Bn rfl rfl (v:=(.bool (false))) rfl) (Asf (.bool (false)) (l_M (iV (0)) (gY rfl rfl) rfl (Aa (gY rfl rfl) (Dg rfl rfl) (l_v (Bn rfl rfl (v:=(.bool (false))) rfl) (Asf (.bool (false)) (l_M (iV (0)) (gY rfl rfl) rfl (Aa (gY rfl rfl) (Dg rfl rfl) (l_v (Bn rfl rfl (v:=(.bool (false))) rfl) (Asf (.bool (false)) (l_M (iV (0)) (gY rfl rfl) rfl (Aa (gY rfl rfl) (Dg rfl rfl) (l_v (Bn rfl rfl (v:=(.bool (false))) rfl) (Asf (.bool (false)) (l_M (.bool (true)) (gY rfl rfl) rfl (Aa (gY rfl rfl) (Iy rfl) (l_v (Bn rfl rfl (v:=(.bool (!(true)))) rfl) (Asf (.bool (!(true))) (l_M (.bool (true)) (gY rfl (not_t rfl)) rfl (Aa (gY rfl (not_t rfl)) (Iy rfl) (l_v (Bn rfl (not_t rfl) (v:=(.bool (!(true)))) rfl) (l_k k39 (Cg rfl (not_t rfl) (Al (k38 _ _ _ _ ?_)))))))))))))))))))))))))))))))))
 refine Asb rfl rfl fun K40 K41 k40 k41=>Asf v15_0 (Arv (Bi (α:=Int) (xs:=[2,1,0]) (vs:=[(iV (2)),(iV (1)),(iV (0))]) Bil Pi Acl rfl (by decide) (Dk (os:=[.const (.int .i64 2),.const (.int .i64 1),.const (z0)]) ⟨rfl,rfl,rfl,trivial⟩) ⟨(Cv.2 ⟨rfl,by constructor <;> omega⟩),(Cv.2 ⟨rfl,by constructor <;> omega⟩),(Cv.2 ⟨rfl,by constructor <;> omega⟩),trivial⟩ rfl (by decide) fun k42 cs42 R42=>?_))
 have G42:Grow ρ37 83 (.slice (some ⟨k42,0,none⟩) 3 3) ([2,1,0]:List Int) [(k42,oC cs42.toArray 83)]:=Bs R42 rfl (by decide)
 refine Ca G42 fun ρ43 l43 r43=>?_
 replace r15_0:=Bmo l43 r15_0
 replace r18_0:=Bmo l43 r18_0
 replace r21_0:=Bmo l43 r21_0
 replace r24_0:=Bmo l43 r24_0
 replace r31_0:=Bmo l43 r31_0
 refine Arv (Bm (Ol r15_0 r43) Tryd.func22 rfl rfl ⟨rfl,rfl,trivial⟩ ?_)
 refine l_v (Iy rfl) (Asf (.bool (!(decide (([2,1,0]:List Int) = ([2,1,0]:List Int))))) (l_M (iV (3)) (gY rfl (not_t (by decide))) rfl (Aa (gY rfl (not_t (by decide))) (Dg rfl rfl) (l_v (Bn rfl (not_t (by decide)) (v:=(.bool (false))) rfl) (Asf (.bool (false)) (l_M v18_0 (gY rfl rfl) rfl ?_))))))
 have r44:Val ρ43 (.agg #[(iV (0)),(iV ((-1))),(iV (1))]) (⟨0,(-1),1⟩:FNode):=FNode.shut (x:=(⟨0,(-1),1⟩:FNode)) (show I64 (0) from by constructor <;> omega) (show I64 ((-1)) from by constructor <;> omega) (show I64 (1) from by constructor <;> omega)
 refine Aa (gY rfl rfl) (Dn (ns:=[1,1,1]) (vs:=[(1,(iV ((-1)))),(2,(iV (1)))]) (zc:=Amm) (cs:=[(iV (0)),(iV ((-1))),(iV (1))]) Bjl Agc rfl ⟨⟨_,Ab Bhx,rfl⟩,⟨_,Ab Bhx,rfl⟩,⟨_,Ab Bhx,rfl⟩,trivial⟩ (EvB.map ⟨⟨rfl,rfl⟩,⟨rfl,rfl⟩,trivial⟩) ((Be (cs:=[(iV ((-1)))]) rfl rfl (Nat.le_of_ble_eq_true rfl)).trans ((Be (cs:=[(iV (1))]) rfl rfl (Nat.le_of_ble_eq_true rfl)).trans rfl))) ?_
 have r45:Val ρ43 (.agg #[(iV (1)),(iV ((-1))),(iV (2))]) (⟨1,(-1),2⟩:FNode):=FNode.shut (x:=(⟨1,(-1),2⟩:FNode)) (show I64 (1) from by constructor <;> omega) (show I64 ((-1)) from by constructor <;> omega) (show I64 (2) from by constructor <;> omega)
 refine Aa (gY rfl rfl) (Dn (ns:=[1,1,1]) (vs:=[(0,(iV (1))),(1,(iV ((-1)))),(2,(iV (2)))]) (zc:=Amm) (cs:=[(iV (1)),(iV ((-1))),(iV (2))]) Bjl Agc rfl ⟨⟨_,Ab Bhx,rfl⟩,⟨_,Ab Bhx,rfl⟩,⟨_,Ab Bhx,rfl⟩,trivial⟩ (EvB.map ⟨⟨rfl,rfl⟩,⟨rfl,rfl⟩,⟨rfl,rfl⟩,trivial⟩) ((Be (cs:=[(iV (1))]) rfl rfl (Nat.le_of_ble_eq_true rfl)).trans ((Be (cs:=[(iV ((-1)))]) rfl rfl (Nat.le_of_ble_eq_true rfl)).trans ((Be (cs:=[(iV (2))]) rfl rfl (Nat.le_of_ble_eq_true rfl)).trans rfl)))) ?_
 have r46:Val ρ43 (.agg #[(iV (2)),(iV ((-1))),(iV ((-1)))]) (⟨2,(-1),(-1)⟩:FNode):=FNode.shut (x:=(⟨2,(-1),(-1)⟩:FNode)) (show I64 (2) from by constructor <;> omega) (show I64 ((-1)) from by constructor <;> omega) (show I64 ((-1)) from by constructor <;> omega)
 refine Aa (gY rfl rfl) (Dn (ns:=[1,1,1]) (vs:=[(0,(iV (2))),(1,(iV ((-1)))),(2,(iV ((-1))))]) (zc:=Amm) (cs:=[(iV (2)),(iV ((-1))),(iV ((-1)))]) Bjl Agc rfl ⟨⟨_,Ab Bhx,rfl⟩,⟨_,Ab Bhx,rfl⟩,⟨_,Ab Bhx,rfl⟩,trivial⟩ (EvB.map ⟨⟨rfl,rfl⟩,⟨rfl,rfl⟩,⟨rfl,rfl⟩,trivial⟩) ((Be (cs:=[(iV (2))]) rfl rfl (Nat.le_of_ble_eq_true rfl)).trans ((Be (cs:=[(iV ((-1)))]) rfl rfl (Nat.le_of_ble_eq_true rfl)).trans ((Be (cs:=[(iV ((-1)))]) rfl rfl (Nat.le_of_ble_eq_true rfl)).trans rfl)))) (Ae (gY rfl rfl) (Bi (α:=FNode) (xs:=[(⟨0,(-1),1⟩:FNode),(⟨1,(-1),2⟩:FNode),(⟨2,(-1),(-1)⟩:FNode)]) (vs:=[(.agg #[(iV (0)),(iV ((-1))),(iV (1))]),(.agg #[(iV (1)),(iV ((-1))),(iV (2))]),(.agg #[(iV (2)),(iV ((-1))),(iV ((-1)))])]) Bii ty94 Agc rfl (by decide) (Dk (os:=[.tmp 110,.tmp 111,.tmp 112]) ⟨rfl,rfl,rfl,trivial⟩) ⟨r44,r45,r46,trivial⟩ rfl (by decide) fun k47 cs47 R47=>?_))
 have G47:Grow ρ43 86 (.slice (some ⟨k47,0,none⟩) 3 3) ([(⟨0,(-1),1⟩:FNode),(⟨1,(-1),2⟩:FNode),(⟨2,(-1),(-1)⟩:FNode)]:List FNode) [(k47,oC cs47.toArray 86)]:=Bs R47 rfl (by decide)
 refine Ca G47 fun ρ48 l48 r48=>?_
 replace r18_0:=Bmo l48 r18_0
 replace r21_0:=Bmo l48 r21_0
 replace r24_0:=Bmo l48 r24_0
 replace r31_0:=Bmo l48 r31_0
 refine Ae (gY rfl rfl) (Bm (Aba r18_0 r48) Tryd.func23 rfl rfl ⟨rfl,rfl,trivial⟩ ?_)
 refine Aa (gY rfl rfl) (Iy rfl) (l_v (Bn rfl rfl (v:=(.bool (!((([⟨0,-1,1⟩,⟨1,-1,2⟩,⟨2,-1,-1⟩]:List FNode)) == (([(⟨0,(-1),1⟩:FNode),(⟨1,(-1),2⟩:FNode),(⟨2,(-1),(-1)⟩:FNode)]:List FNode)))))) rfl) (l_k k41 (Cg rfl (not_t (by decide)) (Al (k40 _ _ _ _ ?_)))))
 refine w_q rfl rfl fun K49 k49=>Asf (iV (30)) (l_v (Ek rfl rfl) (Asf (.bool (true)) (l_M v21_0 (gY rfl rfl) rfl (Ae (gY rfl rfl) (Bi (α:=Int) (xs:=[0,1]) (vs:=[(iV (0)),(iV (1))]) Bhy ty3 zr3 rfl (by decide) (Dk (os:=[.const (z0),.const (.int .i64 1)]) ⟨rfl,rfl,trivial⟩) ⟨(Cv.2 ⟨rfl,by constructor <;> omega⟩),(Cv.2 ⟨rfl,by constructor <;> omega⟩),trivial⟩ rfl (by decide) fun k50 cs50 R50=>?_)))))
 have G50:Grow ρ48 3 (.slice (some ⟨k50,0,none⟩) 2 2) ([0,1]:List Int) [(k50,oC cs50.toArray 3)]:=Bs R50 rfl (by decide)
 refine Ca G50 fun ρ51 l51 r51=>?_
 replace r21_0:=Bmo l51 r21_0
 replace r24_0:=Bmo l51 r24_0
 replace r31_0:=Bmo l51 r31_0
 refine Ae (gY rfl rfl) (Bm (Agv r21_0 r51) Tryd.func24 rfl rfl ⟨rfl,rfl,trivial⟩ ?_)
 refine l_v (Bt rfl rfl (v:=(.bool (decide (([0,1]:List Int) = ([0,1]:List Int))))) rfl) (Asf (.bool (decide (([0,1]:List Int) = ([0,1]:List Int)))) (l_M (iV (1)) (gY rfl (by decide)) rfl (Aa (gY rfl (by decide)) (Ek rfl rfl) (l_v (Bt rfl (by decide) (v:=(.bool (true))) rfl) (Asf (.bool (true)) (l_M v24_0 (gY rfl rfl) rfl (Ae (gY rfl rfl) (Bi (α:=Int) (xs:=[2,1,2]) (vs:=[(iV (2)),(iV (1)),(iV (2))]) Bil Pi Acl rfl (by decide) (Dk (os:=[.const (.int .i64 2),.const (.int .i64 1),.const (.int .i64 2)]) ⟨rfl,rfl,rfl,trivial⟩) ⟨(Cv.2 ⟨rfl,by constructor <;> omega⟩),(Cv.2 ⟨rfl,by constructor <;> omega⟩),(Cv.2 ⟨rfl,by constructor <;> omega⟩),trivial⟩ rfl (by decide) fun k52 cs52 R52=>?_))))))))
 have G52:Grow ρ51 83 (.slice (some ⟨k52,0,none⟩) 3 3) ([2,1,2]:List Int) [(k52,oC cs52.toArray 83)]:=Bs R52 rfl (by decide)
 refine Ca G52 fun ρ53 l53 r53=>?_
 replace r24_0:=Bmo l53 r24_0
 replace r31_0:=Bmo l53 r31_0
 refine Ae (gY rfl rfl) (Bm (Ol r24_0 r53) Tryd.func22 rfl rfl ⟨rfl,rfl,trivial⟩ ?_)
 refine l_v (Bt rfl rfl (v:=(.bool (decide (([2,1,2]:List Int) = ([2,1,2]:List Int))))) rfl) (Asf (.bool (decide (([2,1,2]:List Int) = ([2,1,2]:List Int)))) (l_M v31_0 (gY rfl (by decide)) rfl (Ae (gY rfl (by decide)) (Bi (α:=Int) (xs:=[0]) (vs:=[(iV (0))]) Bhy ty3 zr3 rfl (by decide) (Dk (os:=[.const (z0)]) ⟨rfl,trivial⟩) ⟨(Cv.2 ⟨rfl,by constructor <;> omega⟩),trivial⟩ rfl (by decide) fun k54 cs54 R54=>?_))))
 have G54:Grow ρ53 3 (.slice (some ⟨k54,0,none⟩) 1 1) ([0]:List Int) [(k54,oC cs54.toArray 3)]:=Bs R54 rfl (by decide)
 refine Ca G54 fun ρ55 l55 r55=>?_
 replace r31_0:=Bmo l55 r31_0
 refine Ae (gY rfl (by decide)) (Bm (Agv r31_0 r55) Tryd.func24 rfl rfl ⟨rfl,rfl,trivial⟩ ?_)
 refine l_v (Bt rfl (by decide) (v:=(.bool (decide (([0]:List Int) = ([0]:List Int))))) rfl) (Asf (.bool (decide (([0]:List Int) = ([0]:List Int)))) (l_M (iV (0)) (gY rfl (by decide)) rfl (Aa (gY rfl (by decide)) (Ek rfl rfl) (l_v (Bt rfl (by decide) (v:=(.bool (true))) rfl) (Asf (.bool (true)) (l_M (iV (1)) (gY rfl rfl) rfl (Aa (gY rfl rfl) (Ek rfl rfl) (l_v (Bt rfl rfl (v:=(.bool (true))) rfl) (Asf (.bool (true)) (l_M (iV (25)) (gY rfl rfl) rfl (Aa (gY rfl rfl) (Ek rfl rfl) (l_v (Bt rfl rfl (v:=(.bool (true))) rfl) (Lo (.bool (true)) (l_k k49 (Aj (Bmi (Bmm (Bmm (Bmm (Bmm (Bmm (Bmm (Bmm (Bmm (Bmm (Bmm (Bmm (Bmm (Bmm (Bmm (Bmm (Bmm (Bmm (Bmm (Bmm (Bmm l3 l4) l7) l8) l14) l15) l18) l21) l24) l27) l28) l30) l31) l34) l35) l37) l43) l48) l51) l53) l55)) (Aq (hret _ _ _ ⟨rfl,rfl,eT (.bool (true)) ?_⟩)))))))))))))))))
 rfl
end
section
open Go Go.WideShapes Go.ChangeShapes Go.RowKit Go.Conc
/-- What the first goroutine may rely on besides: what it owns is newer than the call's world; what it has frozen is its own again while nobody else is there. -/
def Axk (P:Program) (W0:World):Frame→List Frame→Ro→Own→Cy→Prop:=fun fr cs ρ σ K =>
 Ade P fr cs ρ σ K ∨
 (∃ (gr:Own) (ρ':Ro),Jp σ∧(∀ p ∈ gr,W0.heap.size ≤ p.1∧∃ o,p.2 = Res.obj o∧ρ p.1 = some o)∧(keys gr).Nodup∧Ro.le ρ' ρ∧(∀ p ∈ gr,ρ' p.1 = none)∧K fr cs ρ' (gr ++ σ)) ∨
 ((∀ b ∈ keys σ,W0.heap.size ≤ b)→K fr cs ρ σ)
section
variable {P:Program} {Pst:Value→World→Prop} {W0:World} {fr:Frame} {cs:List Frame} {ρ:Ro} {σ:Own}
theorem Bbl {gr:Own} {ρ':Ro} (hn:Jp σ) (hg:∀ p ∈ gr,W0.heap.size ≤ p.1∧∃ o,p.2 = Res.obj o∧ρ p.1 = some o) (hnd:(keys gr).Nodup) (hle:Ro.le ρ' ρ) (hno:∀ p ∈ gr,ρ' p.1 = none)
  (hK:Fine P W0 Pst fr cs ρ' (gr ++ σ)):Fine P W0 Pst fr cs ρ σ:=by
 refine ⟨fun gs w sl t q h=>hK.A gs w sl t q { h with sat:=?_,nr:=?_,newk:=?_ },fun c vs j Am Aw Sh fw cw ρw σw wp gs w sl t q _ h=>absurd h.hc (hn _ _),fun c j Am Aw Sh pc gs w sl t q h=>absurd h.hc (hn _ _)⟩
 ·have hk:keys (gr ++ σ) = keys gr ++ keys σ:=List.map_append
  refine ⟨fun k ok hk=>h.sat.ro k ok (hle k ok hk),fun p hp=>?_,?_,fun k hk'=>?_⟩
  ·rcases List.mem_append.1 hp with hp | hp
   ·obtain ⟨_,o,ho,hr⟩:=hg p hp
    rw [ho]; exact h.sat.ro _ _ hr
   ·exact h.sat.own p hp
  ·rw [hk,List.nodup_append]
   refine ⟨hnd,h.sat.nd,fun a ha b hb e=>?_⟩
   subst e
   obtain ⟨p,hp,rfl⟩:=List.mem_map.1 ha
   obtain ⟨_,o,_,hr⟩:=hg p hp
   have:=h.sat.dj _ hb
   rw [hr] at this; cases this
  ·rw [hk,List.mem_append] at hk'
   rcases hk' with hk' | hk'
   ·obtain ⟨p,hp,rfl⟩:=List.mem_map.1 hk'; exact hno p hp
   ·cases hr:ρ' k with
    | none=>rfl
    | some o=>have:=h.sat.dj k hk'; rw [hle k o hr] at this; cases this
 ·intro c vs hm
  rcases List.mem_append.1 hm with hm | hm
  ·obtain ⟨_,o,ho,_⟩:=hg _ hm; cases ho
  ·exact hn c vs hm
 ·intro b hb
  rw [show keys (gr ++ σ) = keys gr ++ keys σ from List.map_append,List.mem_append] at hb
  rcases hb with hb | hb
  ·obtain ⟨p,hp,rfl⟩:=List.mem_map.1 hb; exact (hg p hp).1
  ·exact h.newk b hb
theorem Bae (hK:(∀ b ∈ keys σ,W0.heap.size ≤ b)→Fine P W0 Pst fr cs ρ σ):Fine P W0 Pst fr cs ρ σ :=
 ⟨fun gs w sl t q h=>(hK h.newk).A gs w sl t q h,fun c vs j Am Aw Sh fw cw ρw σw wp gs w sl t q hW h=>(hK h.newk).B c vs j Am Aw Sh fw cw ρw σw wp gs w sl t q hW h,fun c j Am Aw Sh pc gs w sl t q h=>(hK h.newk).C c j Am Aw Sh pc gs w sl t q h⟩
theorem Axb (h:GoesH ⟨P,true,Axk P W0⟩ (Agg P W0 Pst) fr cs ρ σ):Fine P W0 Pst fr cs ρ σ:=by
 induction h with
 | stop h=>exact Aex h
 | ghost hg _ ih=>exact ih.ghost hg
 | step K h1 _ ih=>exact Aew h1 ih
 | @ext fr cs ρ σ K h1 _ ih =>
  rcases h1 with (⟨d,i,c,vs,fr',h1,h2,h3,h4,h5⟩ | ⟨i,c,v,vs,z,h1,h2,h3⟩ | ⟨i,c,z,h1,h2,h3⟩) | ⟨gr,ρ',h1,h2,h3,h4,h5,h6⟩ | h1
  ·exact Aeu h1 h2 h3 h4 (ih _ _ _ _ h5)
  ·exact Aev h1 h2 (ih _ _ _ _ h3)
  ·exact Aet h1 h2 (ih _ _ _ _ h3)
  ·exact Bbl h1 h2 h3 h4 h5 (ih _ _ _ _ h6)
  ·exact Bae fun hk=>ih _ _ _ _ (h1 hk)
theorem Avn {F:Frame} (h:GoesH ⟨P,true,Axk P W0⟩ (Agg P W0 Pst) F [] ρ []) (hro:∀ b o,ρ b = some o→W0.heap[b]? = some o∧o.isChan = false) :
  ∃ M last o w' t',runNT P (M + 1) (solo (G F []) W0) #[] = (.ended o w',t')∧runN P M (solo (G F []) W0) = .next last∧step P last = .ended o w'∧Go.Conc.Good P Pst last o w' t':=by
 have hw:My P Pst (crowd #[G F []] W0 none) #[]:=(Axb h).A #[G F []] W0 none #[] (fun _=>0) {
  g0:=⟨G F [],rfl,Is.of _ _⟩
  oth:=fun k y hk hy=>by
   match k with
   | 0=>exact absurd rfl hk
   | k + 1=>simp at hy
  sat:=⟨hro,fun p hp=>absurd hp List.not_mem_nil,List.nodup_nil,fun b hb=>absurd hb List.not_mem_nil⟩
  nr:=fun c' vs' hc'=>by cases hc'
  newk:=fun b hb=>by cases hb
  below:=Below.refl _ _
  tr:=TA.nil }
 exact hw
theorem Avo {f:FuncId} {r:Nat} {args:List Value} {R:Value→Ro→Own→Prop} (h:Agd ⟨P,true,Axk P W0⟩ f r args ρ [] R) (hi:P.inits.idxOf? f = none)
  (hR:∀ v ρ' σ',R v ρ' σ'→σ' = []∧∀ W,Below W0.heap.size W0 W→Pst v W):GoesH ⟨P,true,Axk P W0⟩ (Agg P W0 Pst) (Frame.enter P f args.toArray .normal) [] ρ []:=by
 obtain ⟨fn,c,hf,hc,hr,ha,hw⟩:=h
 have hf:P.funcs[f]? = some fn:=hf
 have e1:Frame.enter P f args.toArray .normal = Fr ⟨f,.normal,none⟩ (args.toArray ++ Array.replicate (fn.ntmps - args.toArray.size) undef) [] [.code c]:=by
  simp [Frame.enter,hf,hc,Fr]
 rw [e1]
 refine (hw (fun ex e ds ρ σ=>(∀ id,ex ≠ .exit id)∧ds = []∧R (e r) ρ σ) (fun e ρ' σ' h=>⟨fun id h=>(by cases h),rfl,h⟩) (fun e ρ' σ' h=>⟨fun id h=>(by cases h),rfl,h⟩) _ [] [] (Tn ha)).bind ?_
 rintro _ _ ρ' σ' ⟨rfl,ex,tm',e',ds',todo,h1,⟨h2,rfl,h3⟩,h4,rfl⟩
 obtain ⟨rfl,hp⟩:=hR _ _ _ h3
 have fin:∀ todo,GoesH ⟨P,true,Axk P W0⟩ (Agg P W0 Pst) { Fr ⟨f,.normal,none⟩ tm' [] todo with mode:=.returning } [] ρ' []:=fun todo=>by
  refine .stop ⟨fun c vs hm=>(by cases hm),fun W hs hb _=>⟨e' r,W,#[],?_,fun ev hv=>by simp at hv,hp W hb⟩⟩
  have hrs:(results fn tm').runT P W #[] = (.ok (e' r) W,#[]):=by
   rw [← h1.2 r]
   unfold results; rw [hr,Array.mapM_eq_foldlM]; rfl
  simp [Conc.G,stepG,Fr,unwind,hf,-Sem.runT_eq,hrs,doReturn,hi,GStep.after,seen]
 cases ex with
 | normal =>
  cases h4
  exact Eh (fr':={ Fr ⟨f,.normal,none⟩ tm' [] [] with mode:=.returning }) (cs':=[]) (fun W=>by simp [Conc.G,stepG,stepG.exec,Fr]) (fin _)
 | exit id=>exact absurd rfl (h2 id)
 | ret =>
  obtain ⟨pre,rfl⟩:=h4
  exact Eh (fr':={ Fr ⟨f,.normal,none⟩ tm' [] (.code .ret :: (pre ++ [])) with mode:=.returning }) (cs':=[]) (fun W=>by simp [Conc.G,stepG,stepG.exec,Fr]) (fin _)
end
theorem GoesH.ctx {P:Program} {mn:Bool} {X Y:Frame→List Frame→Ro→Own→Cy→Prop} (hX:∀ fr cs ρ σ K,X fr cs ρ σ K→Y fr cs ρ σ K) {S:Cy} {fr:Frame} {cs:List Frame} {ρ:Ro} {σ:Own} (h:GoesH ⟨P,mn,X⟩ S fr cs ρ σ):GoesH ⟨P,mn,Y⟩ S fr cs ρ σ:=by
 induction h with
 | stop h=>exact .stop h
 | ghost hg _ ih=>exact .ghost hg ih
 | step K h1 _ ih=>exact .step K h1 ih
 | ext K h1 _ ih=>exact .ext K (hX _ _ _ _ _ h1) ih
noncomputable abbrev CY (W0:World):Ctx:=CX true (Axk Tryd.prog W0)
theorem Aub {W0:World} {f:FuncId} {args:Array Value} {ρ:Ro} {σ:Own} {R:Value→Ro→Own→Prop} (h:CallsH (CX true (Ade Tryd.prog)) f args ρ σ R):CallsH (CY W0) f args ρ σ R :=
 fun c cs=>(h c cs).ctx fun _ _ _ _ _ h=>.inl h
section
variable {W0:World} {b:FB} {n:Nat} {e:Env} {ds:List Deferred} {ρ:Ro} {σ:Own}
theorem Baf {S:Cy} {fr:Frame} {cs:List Frame} (h:(∀ b ∈ keys σ,W0.heap.size ≤ b)→(keys σ).Nodup→(∀ b ∈ keys σ,ρ b = none)→GoesH (CY W0) S fr cs ρ σ):GoesH (CY W0) S fr cs ρ σ:=by
 by_cases hs:∃ W,Sat ρ σ W
 ·obtain ⟨W,hs⟩:=hs
  exact .ext (fun fr' cs' ρ' σ'=>fr' = fr∧cs' = cs∧ρ' = ρ∧σ' = σ∧∀ b ∈ keys σ,W0.heap.size ≤ b) (.inr (.inr fun hk=>⟨rfl,rfl,rfl,rfl,hk⟩)) (by rintro _ _ _ _ ⟨rfl,rfl,rfl,rfl,hk⟩; exact h hk hs.nd hs.dj)
 ·exact Rc fun W hW=>hs ⟨W,hW⟩
theorem Avj {C:Ctx} {S:Cy} {fr:Frame} {cs:List Frame}:∀ {gr:Own} {ρ:Ro},(∀ p ∈ gr,∃ o,p.2 = Res.obj o)→(∀ ρ',Ro.le ρ ρ'→(∀ p ∈ gr,∃ o,p.2 = Res.obj o∧ρ' p.1 = some o)→GoesH C S fr cs ρ' σ)→GoesH C S fr cs ρ (gr ++ σ)
 | [],ρ,_,h=>h ρ .refl fun p hp=>by cases hp
 | (k,x) :: gr,ρ,hg,h=>by
  obtain ⟨o,ho⟩:=hg _ (List.mem_cons_self ..)
  simp only at ho; subst ho
  refine Rv fun ρ' h1 h2=>Avj (fun p hp=>hg p (List.mem_cons_of_mem _ hp)) fun ρ'' h3 h4=>h ρ'' (h1.trans h3) fun p hp=>?_
  rcases List.mem_cons.1 hp with rfl | hp
  ·exact ⟨o,rfl,h3 _ _ h2⟩
  ·exact h4 p hp
/-- Blocks that are lent: frozen for now,newer than the call's world,not read before. -/
structure Lent (W0:World) (ρ0 ρ:Ro) (gr:Own):Prop where
 at_:∀ p ∈ gr,W0.heap.size ≤ p.1∧∃ o,p.2 = Res.obj o∧ρ p.1 = some o
 nd:(keys gr).Nodup
 no:∀ p ∈ gr,ρ0 p.1 = none
 le:Ro.le ρ0 ρ
theorem Lent.mono {ρ0 ρ':Ro} {gr:Own} (hle:Ro.le ρ ρ') (h:Lent W0 ρ0 ρ gr):Lent W0 ρ0 ρ' gr :=
 ⟨fun p hp=>let ⟨h1,o,h2,h3⟩:=h.at_ p hp; ⟨h1,o,h2,hle _ _ h3⟩,h.nd,h.no,h.le.trans hle⟩
theorem Bbn {α:Type} [Dat α] {S:Cy} {fr:Frame} {cs:List Frame} {el:TypeId} {v:Value} {xs:List α} {gr:Own} (hg:Grow ρ el v xs gr)
  (h:∀ ρ',Ro.le ρ ρ'→Val ρ' v xs→Lent W0 ρ ρ' gr→GoesH (CY W0) S fr cs ρ' σ):GoesH (CY W0) S fr cs ρ (gr ++ σ):=by
 refine Baf fun h1 h2 h3=>Avj hg.1 fun ρ' h4 h5=>h ρ' h4 ?_ ⟨fun p hp=>⟨h1 _ (List.mem_map_of_mem (f:=Prod.fst) (List.mem_append_left _ hp)),h5 p hp⟩,?_,fun p hp=>h3 _ (List.mem_map_of_mem (f:=Prod.fst) (List.mem_append_left _ hp)),h4⟩
 ·rcases hg.2.2 with ⟨e1,e2⟩ | ⟨r,cap,cs,rs,gb,e1,e2,e3,e4,e5⟩
  ·rw [e1,e2]; exact Gx
  ·obtain ⟨o,ho,hr⟩:=h5 (r,.obj (.cells (cs ++ rs).toArray el (0,0))) (by rw [e2]; exact List.mem_cons_self ..)
   cases ho
   exact Grow.val hg.2.1 e1 (e3.mono h4) e5 hr
 ·rw [show keys (gr ++ σ) = keys gr ++ keys σ from List.map_append,List.nodup_append] at h2
  exact h2.1
theorem Bbm {S:Cy} {fr:Frame} {cs:List Frame} {gr:Own} {ρ0:Ro} (hL:Lent W0 ρ0 ρ gr) (hn:Jp σ) (h:GoesH (CY W0) S fr cs ρ0 (gr ++ σ)):GoesH (CY W0) S fr cs ρ σ :=
 .ext (fun fr' cs' ρ' σ'=>fr' = fr∧cs' = cs∧ρ' = ρ0∧σ' = gr ++ σ) (.inr (.inl ⟨gr,ρ0,hn,hL.at_,hL.nd,hL.le,hL.no,rfl,rfl,rfl,rfl⟩)) (by rintro _ _ _ _ ⟨rfl,rfl,rfl,rfl⟩; exact h)
theorem Aya {α:Type} [Dat α] {Q:Env→List Deferred→Ro→Own→Prop} {l₀ rest:List Oper} {el:TypeId} {v:Value} {xs:List α} {gr:Own} (hg:Grow ρ el v xs gr) (h:∀ ρ',Ro.le ρ ρ'→Val ρ' v xs→Lent W0 ρ ρ' gr→Ey (CY W0) b n l₀ rest Q e ds ρ' σ):Ey (CY W0) b n l₀ rest Q e ds ρ (gr ++ σ) :=
 fun pre h1 h2 h3 tm k cs ht=>Bbn hg fun ρ' h4 h5 h6=>h ρ' h4 h5 h6 pre h1 h2 h3 tm k cs ht
theorem Bep {Q:Hu} {c:Code} {gr:Own} {ρ0:Ro} (hL:Lent W0 ρ0 ρ gr) (hn:Jp σ) (h:WpC (CY W0) b n c Q e ds ρ0 (gr ++ σ)):WpC (CY W0) b n c Q e ds ρ σ :=
 fun tm k cs ht=>Bbm hL hn (h tm k cs ht)
end
/-- As Bcp,with what may be lent. -/
theorem Bbp {f:FuncId} {r:Nat} {fn:Func} {s:ChangeSpec} (os:Os) (started:os.Started) (H:Type) (enc:TypeId × Value→H) (hfn:Tryd.prog.funcs[f]? = some fn) (hvars:s.vars = []) (hres:fn.resultTypes = #[4]) (hi:Tryd.prog.inits.idxOf? f = none)
  (hts:∀ t ∈ fn.params.toList,Tryd.prog.readableRec t = true∧t < Tryd.prog.types.size)
  (hspec:∀ ds:List (DataW H),ds.length = fn.params.toList.length→s.fn H ds = { results:=[.lit (.bool true)],args:=ds })
  (witness:∃ (w:World) (tape:Tape) (i:Input),w.os = os∧(w.forCall tape i).Shaped Tryd.prog∧i.vars = []∧Input.okWide Tryd.prog (w.forCall tape i) .any w.heap.size f i∧Apj H enc s fn (w.forCall tape i).memory i.args∧({}:Assume).holds Tryd.prog (lone (Frame.enter Tryd.prog f i.args .normal) [] (w.forCall tape i)))
  (walk:∀ (W:World) (args:List Value) (ds:List (DataW H)) (ps:List MemPlace),(∀ (j:Nat) t v,fn.params[j]? = some t→args.toArray[j]? = some v→∃ b,Value.okWide Tryd.prog W .any b t v)→DataW.TrodAll enc Tryd.prog W 0 (fun _=>true) true fn.params.toList args ds ps →
   (DataW.weightsEach Tryd.prog fn.params.toList ds).all (· ≤ reachBytes) = true→Glob (roW W)→Agd (CY W) f r args (roW W) [] (fun w ρ' σ'=>ρ' = roW W∧σ' = []∧w = .bool true)) :
  ReturnsInLeavingWide {} Tryd.checked os f .any (Apj H enc s fn) (s.post enc Tryd.prog fn false true false false):=by
 refine returnsInLeavingWide_of_good (C:=Tryd.checked) Art started witness ?_
 intro w tape i _ _ _ hok hpre _
 obtain ⟨_,_,_,fn',hfn',_,_,_,_,hval⟩:=hok
 have e:fn' = fn:=Option.some.inj (hfn'.symm.trans hfn)
 subst e
 obtain ⟨⟨⟨ds,gs,before,hw,_⟩,hL⟩,hz⟩:=hpre
 have hsz:=hz.weights hw
 have hw':=DataW.Whole.of_heap (w':=w.forCall tape i) (by rfl) hw
 have hL':=hL.of_heap (w':=w.forCall tape i) (by rfl)
 generalize w.forCall tape i = W at *
 obtain ⟨p,q,hA,hV,hb,hnf,hnd⟩:=hw'
 have hV':DataW.TrodVars enc Tryd.prog W (fun _=>true) [] gs q:=by rw [← hvars]; exact hV
 obtain ⟨rfl,rfl⟩:=trodVars_none hV'
 simp only [List.append_nil] at hb
 replace hb:=hb.symm
 subst hb
 have hvt:s.plain.varTypes Tryd.prog = []:=by unfold DataSpec.varTypes ChangeSpec.plain; rw [hvars]; rfl
 rw [show (OpenSpec.ofChange s).bare.plain.varTypes Tryd.prog = [] from hvt,List.append_nil,List.append_nil] at hsz
 obtain ⟨hl1,hl2⟩:=Sb hA
 have hargs:i.args.toList.toArray = i.args:=by simp
 have hbody:=walk W i.args.toList ds p (fun j t v h1 h2=>⟨_,hval j t v h1 (by rw [hargs] at h2; exact h2)⟩) hA hsz (Xc hL')
 have hW0:DataW.Whole enc Tryd.prog fn'.params.toList s.vars false W i.args.toList ds [] p:=⟨p,[],hA,hV,by simp,hnf,hnd⟩
 have hlt:∀ x ∈ p,x.block < W.heap.size:=fun x hx=>by simpa using hW0.lt x hx
 have hgo:=Avo (W0:=W) (Pst:=fun v W'=>s.post enc Tryd.prog fn' false true false false W i.args v W') hbody hi fun v ρ' σ' ⟨_,hσ,hv⟩=>⟨hσ,fun W' hbw=>by
  subst hv
  have er:(s.fn H (ds ++ [])) = { results:=[.lit (.bool true)],args:=ds }:=by rw [List.append_nil]; exact hspec ds hl2
  refine ⟨ds,[],p,[],p,[],hW0,?_,?_,?_,hbw.frame _,fun h=>by cases h⟩
  ·rw [er,hres]; exact trodAll_mk1 (shut_bool Bjf true)
  ·rw [er]; exact Oo hbw hts hlt hA
  ·rw [er,hvars]; rfl⟩
 rw [hargs] at hgo
 obtain ⟨M,last,o,w',t',h1,h2,h3,h4⟩:=Avn hgo Anl
 exact ⟨M,last,o,w',t',h1,h2,h3,h4.mono fun v hp=>ChangeSpec.post_blind hp⟩
end
section
open Go
/-- More may be read,and these blocks are still owned. -/
def leO (ρ₀:Ro) (A:Own):Ro→Own→Prop:=fun ρ' σ'=>Ro.le ρ₀ ρ'∧∀ p ∈ A,p ∈ σ'
def Aux (P:Program) (ρ₀:Ro) (A:Own) (e:Env) (op:Op) (ty:TypeId) (v:Value):Prop :=
 ∀ ρ' σ d pos af g,leO ρ₀ A ρ' σ→wpS P ρ' (execOp (Af e) ⟨d,op,ty,pos,af,g⟩) σ (fun nx σ'=>nx = .value v∧σ' = σ)
theorem Yld.o {P:Program} {ρ₀:Ro} {A:Own} {e:Env} {op:Op} {ty:TypeId} {v:Value} (h:Yld P ρ₀ e op ty v):Aux P ρ₀ A e op ty v:=fun ρ' σ d pos af g hS=>h ρ' σ d pos af g hS.1
theorem Bhv {σ:Own}:∀ p ∈ ([]:Own),p ∈ σ:=fun p hp=>by cases hp
theorem Bhs {A σ:Own} {x:Nat × Res} (h:∀ p ∈ A,p ∈ σ):∀ p ∈ x :: A,p ∈ x :: σ:=fun p hp=>by
 rcases List.mem_cons.1 hp with rfl | hp
 ·exact List.mem_cons_self ..
 ·exact List.mem_cons_of_mem _ (h p hp)
theorem Bht {A σ gr:Own} (h:∀ p ∈ A,p ∈ σ):∀ p ∈ gr ++ A,p ∈ gr ++ σ:=fun p hp=>by
 rcases List.mem_append.1 hp with hp | hp
 ·exact List.mem_append_left _ hp
 ·exact List.mem_append_right _ (h p hp)
theorem Bhr {A σ:Own} {x:Nat × Res} (h:∀ p ∈ A,p ∈ σ):∀ p ∈ A,p ∈ x :: σ:=fun p hp=>List.mem_cons_of_mem _ (h p hp)
theorem Bhu {A σ gr:Own} (h:∀ p ∈ A,p ∈ σ):∀ p ∈ A,p ∈ gr ++ σ:=fun p hp=>List.mem_append_right _ (h p hp)
theorem sB {A σ:Own} (h:∀ p ∈ A,p ∈ σ:=by repeat first | exact Bhv | refine Bhs ?_ | refine Bht ?_ | refine Bhr ?_ | refine Bhu ?_):∀ p ∈ A,p ∈ σ:=h
section
variable {C:Ctx} {b:FB} {n:Nat} {l₀ rest:List Oper} {Q:Env→List Deferred→Ro→Own→Prop} {e:Env} {ds:List Deferred} {ρ ρ₀ ρ₁:Ro} {σ A:Own} {pz:List Nat} {fuel:Nat}
variable {d i:Nat} {op:Op} {ty:TypeId} {pos:String} {af:Array Edge} {g:Option (Nat × Bool)} {v:Value} {li:List Bool}
theorem Bcn (hS:leO ρ₀ A ρ σ) (hw:Bz l₀.toArray ⟨some d,op,ty,pos,af,g⟩ e = true) (hy:Aux C.P ρ₀ A e op ty v) (h:Ey C b n l₀ rest Q (upd e d v) ds ρ σ):Ey C b n l₀ (⟨some d,op,ty,pos,af,g⟩ :: rest) Q e ds ρ σ :=
 Add hw (Eu (by rintro nx σ' ⟨rfl,rfl⟩; exact h) _ _ (hy ρ σ _ _ _ _ hS))
theorem Auc {id:Nat} {Q:Hu} (A:Own) (pz:List Nat) (hm:C.P.follows .mixedOrders = true) (hs:Nm n l₀ = true) (hk:b.kind = .normal)
  (h:El C b l₀.toArray (fun e ds ρ σ=>Q .normal e ds ρ σ) pz (leO ρ A) l₀.length (List.replicate l₀.length false).toArray e ds ρ σ):WpC C b n (.region id l₀.toArray true) Q e ds ρ σ :=
 Vk pz (leO ρ A) hm (Ih hs) (by rw [hk]; simp) (by simpa using h)
theorem Avk (hr:Dl l₀ li = []) (h:Q e ds ρ σ):El C b l₀.toArray Q pz (leO ρ₀ A) fuel li.toArray e ds ρ σ:=Aeb (by rw [Hh]; exact hr) h fuel
theorem Bew (li':List Bool) (hli:li.set i true = li') (ht:Py l₀ li pz i = true) (hi:l₀[i]? = some ⟨some d,op,ty,pos,af,g⟩)
  (hS:leO ρ₀ A ρ σ) (hw:Bz l₀.toArray ⟨some d,op,ty,pos,af,g⟩ e = true) (hy:Aux C.P ρ₀ A e op ty v) (h:El C b l₀.toArray Q pz (leO ρ₀ A) fuel li'.toArray (upd e d v) ds ρ σ) :
  El C b l₀.toArray Q pz (leO ρ₀ A) (fuel + 1) li.toArray e ds ρ σ:=by
 obtain ⟨h1,h2,h3,h4⟩:=Wg ht
 refine Vm (by rw [List.getElem?_toArray]; exact hi) h1 h2 h3 h4 (.inl ⟨hw,fun ρ' σ' hS'=>hy ρ' σ' _ _ _ _ hS'⟩) hS ?_
 rw [Mo hli]; exact h
theorem Ask  (i:Nat) (li':List Bool) (hi:l₀[i]? = some ⟨some d,op,ty,pos,af,g⟩) (hS:leO ρ₀ A ρ σ) (hw:Bz l₀.toArray ⟨some d,op,ty,pos,af,g⟩ e = true) (hy:Aux C.P ρ₀ A e op ty v) (h:El C b l₀.toArray Q pz (leO ρ₀ A) fuel li'.toArray (upd e d v) ds ρ σ) (hli:li.set i true = li':=by rfl) (ht:Py l₀ li pz i = true:=by kernel_rfl) :
  El C b l₀.toArray Q pz (leO ρ₀ A) (fuel + 1) li.toArray e ds ρ σ:=Bew (i:=i) li' hli ht hi hS hw hy h
theorem Bfs {F:Value→Prop} (li':List Bool) (hli:li.set i true = li') (ht:Py l₀ li pz i = true) (hi:l₀[i]? = some ⟨some d,op,ty,pos,af,g⟩)
  (hS:leO ρ₀ A ρ σ) (hw:Bz l₀.toArray ⟨some d,op,ty,pos,af,g⟩ e = true) (hy:∃ v,F v∧Aux C.P ρ₀ A e op ty v) (h:∀ v,F v→El C b l₀.toArray Q pz (leO ρ₀ A) fuel li'.toArray (upd e d v) ds ρ σ) :
  El C b l₀.toArray Q pz (leO ρ₀ A) (fuel + 1) li.toArray e ds ρ σ:=let ⟨v,h1,h2⟩:=hy; Bew li' hli ht hi hS hw h2 (h v h1)
theorem Ate {F:Value→Prop} (i:Nat) (li':List Bool) (hi:l₀[i]? = some ⟨some d,op,ty,pos,af,g⟩) (hS:leO ρ₀ A ρ σ) (hw:Bz l₀.toArray ⟨some d,op,ty,pos,af,g⟩ e = true) (hy:∃ v,F v∧Aux C.P ρ₀ A e op ty v) (h:∀ v,F v→El C b l₀.toArray Q pz (leO ρ₀ A) fuel li'.toArray (upd e d v) ds ρ σ) (hli:li.set i true = li':=by rfl) (ht:Py l₀ li pz i = true:=by kernel_rfl) :
  El C b l₀.toArray Q pz (leO ρ₀ A) (fuel + 1) li.toArray e ds ρ σ:=Bfs (i:=i) li' hli ht hi hS hw hy h
theorem Ayd {ρ':Ro} {σ':Own} (hg:Ghost ρ σ ρ' σ') (hS:leO ρ₀ A ρ σ→leO ρ₀ A ρ' σ') (h:El C b l₀.toArray Q pz (leO ρ₀ A) (fuel + 1) li.toArray e ds ρ' σ'):El C b l₀.toArray Q pz (leO ρ₀ A) (fuel + 1) li.toArray e ds ρ σ:=Aar hg hS h
/-- The one that may come up. -/
theorem Bev (li':List Bool) (hli:li.set i true = li') (hr:Dl l₀ li = [i]) (hi:l₀[i]? = some ⟨some d,op,ty,pos,af,g⟩) (hw:Bz l₀.toArray ⟨some d,op,ty,pos,af,g⟩ e = true)
  (h:wpS C.P ρ (execOp (Af e) ⟨some d,op,ty,pos,af,g⟩) σ (NextH C (fun v ds' ρ' σ'=>leO ρ₀ A ρ' σ'∧El C b l₀.toArray Q pz (leO ρ₀ A) fuel li'.toArray (upd e d v) ds' ρ' σ') b.round ds ρ)) :
  El C b l₀.toArray Q pz (leO ρ₀ A) (fuel + 1) li.toArray e ds ρ σ:=by
 refine Mz ((Hh _ _).trans hr) (by simp) fun j hj=>?_
 rw [List.mem_singleton] at hj; subst hj
 unfold OpH
 simp only [List.getElem?_toArray,hi,Mo hli]
 rw [if_pos hw]
 exact Eu (fun nx σ' hn=>hn.mono fun v ds ρ σ hh=>⟨fun _=>hh.1,hh.2⟩) _ _ h
theorem Aur  (i:Nat) (li':List Bool) (hi:l₀[i]? = some ⟨some d,op,ty,pos,af,g⟩) (hw:Bz l₀.toArray ⟨some d,op,ty,pos,af,g⟩ e = true) (h:wpS C.P ρ (execOp (Af e) ⟨some d,op,ty,pos,af,g⟩) σ (NextH C (fun v ds' ρ' σ'=>leO ρ₀ A ρ' σ'∧El C b l₀.toArray Q pz (leO ρ₀ A) fuel li'.toArray (upd e d v) ds' ρ' σ') b.round ds ρ)) (hli:li.set i true = li':=by rfl) (hr:Dl l₀ li = [i]:=by kernel_rfl) :
  El C b l₀.toArray Q pz (leO ρ₀ A) (fuel + 1) li.toArray e ds ρ σ:=Bev (i:=i) li' hli hr hi hw h
/-- The one that may come up,and that waits for those that were taken first. -/
theorem Beh (li':List Bool) (hli:li.set i true = li') (hr:Dl l₀ li = [i]) (hl:Pg l₀.toArray pz i = true) (hi:l₀[i]? = some ⟨none,op,ty,pos,af,g⟩) (hw:Bz l₀.toArray ⟨none,op,ty,pos,af,g⟩ e = true)
  (h:wpS C.P ρ (execOp (Af e) ⟨none,op,ty,pos,af,g⟩) σ (NextH C (fun _ ds' ρ' σ'=>El C b l₀.toArray Q pz (leO ρ₀ A) fuel li'.toArray e ds' ρ' σ') b.round ds ρ)) :
  El C b l₀.toArray Q pz (leO ρ₀ A) (fuel + 1) li.toArray e ds ρ σ:=by
 refine Mz ((Hh _ _).trans hr) (by simp) fun j hj=>?_
 rw [List.mem_singleton] at hj; subst hj
 unfold OpH
 simp only [List.getElem?_toArray,hi,Mo hli]
 rw [if_pos hw]
 exact Eu (fun nx σ' hn=>hn.mono fun v ds ρ σ hh=>⟨fun h=>(by rw [hl] at h; cases h),hh⟩) _ _ h
theorem Auq  (i:Nat) (li':List Bool) (hi:l₀[i]? = some ⟨none,op,ty,pos,af,g⟩) (hw:Bz l₀.toArray ⟨none,op,ty,pos,af,g⟩ e = true) (h:wpS C.P ρ (execOp (Af e) ⟨none,op,ty,pos,af,g⟩) σ (NextH C (fun _ ds' ρ' σ'=>El C b l₀.toArray Q pz (leO ρ₀ A) fuel li'.toArray e ds' ρ' σ') b.round ds ρ)) (hli:li.set i true = li':=by rfl) (hr:Dl l₀ li = [i]:=by kernel_rfl) (hl:Pg l₀.toArray pz i = true:=by kernel_rfl) :
  El C b l₀.toArray Q pz (leO ρ₀ A) (fuel + 1) li.toArray e ds ρ σ:=Beh (i:=i) li' hli hr hl hi hw h
theorem Bcs (li':List Bool) (hli:li.set i true = li') (hr:Dl l₀ li = [i]) (hi:l₀[i]? = some ⟨some d,op,ty,pos,af,g⟩) (hS:leO ρ₀ A ρ σ) (hw:Bz l₀.toArray ⟨some d,op,ty,pos,af,g⟩ e = true) (hy:Aux C.P ρ₁ A e op ty v) (hS1:leO ρ₁ A ρ σ)
  (h:El C b l₀.toArray Q pz (leO ρ₀ A) fuel li'.toArray (upd e d v) ds ρ σ):El C b l₀.toArray Q pz (leO ρ₀ A) (fuel + 1) li.toArray e ds ρ σ :=
 Bev li' hli hr hi hw (Eu (by rintro nx σ' ⟨rfl,rfl⟩; exact ⟨hS,h⟩) _ _ (hy ρ σ _ _ _ _ hS1))
theorem Asp  (i:Nat) (li':List Bool) (hi:l₀[i]? = some ⟨some d,op,ty,pos,af,g⟩) (hS:leO ρ₀ A ρ σ) (hw:Bz l₀.toArray ⟨some d,op,ty,pos,af,g⟩ e = true) (hy:Aux C.P ρ₁ A e op ty v) (hS1:leO ρ₁ A ρ σ) (h:El C b l₀.toArray Q pz (leO ρ₀ A) fuel li'.toArray (upd e d v) ds ρ σ) (hli:li.set i true = li':=by rfl) (hr:Dl l₀ li = [i]:=by kernel_rfl):El C b l₀.toArray Q pz (leO ρ₀ A) (fuel + 1) li.toArray e ds ρ σ:=Bcs (i:=i) li' hli hr hi hS hw hy hS1 h
theorem Bei {F:Value→Prop} (li':List Bool) (hli:li.set i true = li') (hr:Dl l₀ li = [i]) (hi:l₀[i]? = some ⟨some d,op,ty,pos,af,g⟩) (hS:leO ρ₀ A ρ σ) (hw:Bz l₀.toArray ⟨some d,op,ty,pos,af,g⟩ e = true) (hy:∃ v,F v∧Aux C.P ρ₁ A e op ty v) (hS1:leO ρ₁ A ρ σ)
  (h:∀ v,F v→El C b l₀.toArray Q pz (leO ρ₀ A) fuel li'.toArray (upd e d v) ds ρ σ):El C b l₀.toArray Q pz (leO ρ₀ A) (fuel + 1) li.toArray e ds ρ σ:=let ⟨v,h1,h2⟩:=hy; Bcs li' hli hr hi hS hw h2 hS1 (h v h1)
theorem Aul {F:Value→Prop} (i:Nat) (li':List Bool) (hi:l₀[i]? = some ⟨some d,op,ty,pos,af,g⟩) (hS:leO ρ₀ A ρ σ) (hw:Bz l₀.toArray ⟨some d,op,ty,pos,af,g⟩ e = true) (hy:∃ v,F v∧Aux C.P ρ₁ A e op ty v) (hS1:leO ρ₁ A ρ σ) (h:∀ v,F v→El C b l₀.toArray Q pz (leO ρ₀ A) fuel li'.toArray (upd e d v) ds ρ σ) (hli:li.set i true = li':=by rfl) (hr:Dl l₀ li = [i]:=by kernel_rfl):El C b l₀.toArray Q pz (leO ρ₀ A) (fuel + 1) li.toArray e ds ρ σ:=Bei (i:=i) li' hli hr hi hS hw hy hS1 h
theorem Azf (hl:((List.range l₀.length).all fun j=>!Pg l₀.toArray pz j) = true) (h01:Ro.le ρ₀ ρ₁):∀ {fuel:Nat} {li:Array Bool} {e:Env} {ds:List Deferred} {ρ:Ro} {σ:Own},leO ρ₁ A ρ σ→El C b l₀.toArray Q pz (leO ρ₁ A) fuel li e ds ρ σ→El C b l₀.toArray Q pz (leO ρ₀ A) fuel li e ds ρ σ
 | 0,li,e,ds,ρ,σ,_,h=>h
 | fuel + 1,li,e,ds,ρ,σ,hS,h=>by
  rcases h with h | ⟨ρ',σ',hg,h1,h2,h3⟩
  ·exact .inl h
  ·have hu:∀ {r s},leO ρ₁ A r s→leO ρ₀ A r s:=fun h=>⟨h01.trans h.1,h.2⟩
   refine .inr ⟨ρ',σ',hg,fun _=>hu (h1 hS),h2,fun i hi=>?_⟩
   have h4:=h3 i hi
   refine OpH.mono h4 fun e' ds' ρ'' σ'' ⟨h5,h6⟩=>?_
   have hi':i < l₀.length:=by
    have:=(List.mem_filter.1 (show i ∈ (List.range l₀.toArray.size).filter _ from hi)).1
    simpa using this
   have hlate:Pg l₀.toArray pz i = false:=by
    have:=List.all_eq_true.1 hl i (by simpa using hi')
    simpa using this
   have h7:=h5 hlate
   exact ⟨fun _=>hu h7,Azf hl h01 h7 h6⟩
end
section
variable {P:Program} {ρ₀:Ro} {A:Own} {e:Env} {ty t t':TypeId} {x:Operand} {v:Value}
theorem Atj {r off:Nat} {c:List Value} {fz:Nat × Nat} (hT:∃ d,P.underlying t = some d∧Qv d = false) (hx:Af e x = .pointer (some ⟨r,off,none⟩)) (hm:(r,Res.obj (.cells c.toArray t' fz)) ∈ A) (hc:c[off]? = some v):Aux P ρ₀ A e (.load t x) ty v:=fun ρ' σ d pos af g hS=>by
 show wpS P ρ' ((Instr.loadAt t (Af e x)).bind fun v=>Sem.pure (Next.value v)) σ _
 rw [Ad,hx]
 show wpS P ρ' (loadVar t ⟨r,off,none⟩) σ _
 show wpS P ρ' ((isAgg t).bind _) σ _
 rw [Ad]
 refine Hi hT ?_
 exact ⟨rfl,rfl,_,v,.inr (hS.2 _ hm),by simpa [Gy] using hc,rfl,rfl⟩
/-- One cell of an element of a slice that grows is read. -/
theorem Beq {α β:Type} [Dat α] [Dat β] {o off i:Nat} {get:α→β} {xs:List α} {z:α} {gr:Own} {el:TypeId} (hf:Fld α β o get) (ha:Dat.agg β = false) (hG:Grow ρ₀ el v xs gr) (hsub:∀ p ∈ gr,p ∈ A) (hi:xs[i]? = some z)
  (hT:∃ d,P.underlying t = some d∧Qv d = false) (hx:Af e x = .pointer (some ⟨Ahx v,off,none⟩)) (ho:off = i * Dat.k α + o):∃ w,Val ρ₀ w (get z)∧Aux P ρ₀ A e (.load t x) ty w:=by
 have hil:i < xs.length:=(List.getElem?_eq_some_iff.1 hi).1
 rcases hG.2.2 with ⟨_,h2⟩ | ⟨r,cap,cs,rs,gb,e1,e2,hr,hl,hc⟩
 ·rw [h2] at hil; simp at hil
 ·subst e1 e2
  obtain ⟨c,post,h1,h2⟩:=hr.get hi
  obtain ⟨pre,cs',post',h3,h4,h5⟩:=hf.at_ _ _ _ h2
  have h6:cs'.length = 1:=(Dat.len h5).trans (Dat.one ha)
  match cs',h6 with
  | [w],_ =>
   refine ⟨w,⟨[w],h5,by unfold Vu; rw [ha]; rfl⟩,Atj hT hx (hsub _ (List.mem_cons_self ..)) ?_⟩
   have h7:cs.drop off = [w] ++ (post' ++ post):=by rw [ho,← List.drop_drop,h1,h3,← h4,List.append_assoc,List.drop_left,List.append_assoc]
   have h8:cs[off]? = some w:=by
    have:=congrArg (·[0]?) h7
    simpa using this
   rw [List.getElem?_append_left (List.getElem?_eq_some_iff.1 h8).1,h8]
end
/-- A growing slice of sales,but that the sellers of one of them are held elsewhere. -/
def GrowS (ρ:Ro) (v:Value) (xs:List Sale) (i:Nat) (w:Value) (gr:Own):Prop :=
 (∀ p ∈ gr,∃ o,p.2 = Res.obj o)∧xs.length < 2 ^ 60∧∃ r cap ca cc rs gb z,xs[i]? = some z∧v = .slice (some ⟨r,0,none⟩) xs.length cap∧gr = (r,.obj (.cells (ca ++ (.int .i64 z.grams :: w :: cc) ++ rs).toArray 51 (0,0))) :: gb ∧
  I64 z.grams∧ca.length = i * 2∧(∀ (w':Value) (ys:List Int) (ρ':Ro),Ro.le ρ ρ'→Val ρ' w' ys→Rows ρ' (ca ++ (.int .i64 z.grams :: w' :: cc)) (xs.set i ⟨z.grams,ys⟩))∧(ca ++ (.int .i64 z.grams :: w :: cc) ++ rs).length = cap * 2∧xs.length ≤ cap
theorem GrowS.mono {ρ ρ':Ro} {v w:Value} {xs:List Sale} {i:Nat} {gr:Own} (hle:Ro.le ρ ρ') (h:GrowS ρ v xs i w gr):GrowS ρ' v xs i w gr:=by
 obtain ⟨h1,h2,r,cap,ca,cc,rs,gb,z,h3,h4,h5,h6,h7,h8,h9,h10⟩:=h
 exact ⟨h1,h2,r,cap,ca,cc,rs,gb,z,h3,h4,h5,h6,h7,fun w' ys ρ'' hl hv=>h8 w' ys ρ'' (hle.trans hl) hv,h9,h10⟩
section
variable {P:Program} {ρ₀:Ro} {A:Own} {e:Env} {ty t t':TypeId} {x y:Operand} {v w:Value} {xs:List Sale} {i:Nat} {gr:Own}
end
section
variable {C:Ctx} {e:Env} {ds:List Deferred} {ρ:Ro} {σ:Own} {K:Value→List Deferred→Ro→Own→Prop} {rd:Option Nat} {dd:Option Tmp}
variable {ty:TypeId} {pos:String} {af:Array Edge} {g:Option (Nat × Bool)} {x y:Operand} {v w w':Value} {t t':TypeId} {xs:List Sale} {i:Nat} {gr:Own}
end
theorem Atc {P:Program} {ρ₀:Ro} {A:Own} {e:Env} {op:Op} {ty:TypeId} {F:Value→Prop} (h:∃ v,F v∧Yld P ρ₀ e op ty v):∃ v,F v∧Aux P ρ₀ A e op ty v:=let ⟨v,h1,h2⟩:=h; ⟨v,h1,h2.o⟩
theorem Aye {C:Ctx} {b:FB} {l₀:List Oper} {Q:Env→List Deferred→Ro→Own→Prop} {e:Env} {ds:List Deferred} {ρ ρ₀:Ro} {σ σ' A:Own} {pz:List Nat} {fuel:Nat} {li:List Bool} (hp:σ.Perm σ') (h:El C b l₀.toArray Q pz (leO ρ₀ A) (fuel + 1) li.toArray e ds ρ σ'):El C b l₀.toArray Q pz (leO ρ₀ A) (fuel + 1) li.toArray e ds ρ σ :=
 Ayd (Bmj hp) (fun hS=>⟨hS.1,fun p hm=>hp.mem_iff.1 (hS.2 p hm)⟩) h
theorem Bcm {α:Type} [Dat α] {ρ:Ro} {el:TypeId} {v:Value} {xs:List α} {gr:Own} {i:Nat} {z:α} (hG:Grow ρ el v xs gr) (hi:xs[i]? = some z):∃ cs,Dat.rep ρ cs z:=by
 rcases hG.2.2 with ⟨_,h2⟩ | ⟨r,cap,cs,rs,gb,e1,e2,hr,_⟩
 ·subst h2; simp at hi
 ·obtain ⟨c,post,_,h2⟩:=hr.get hi; exact ⟨c,h2⟩
section
variable {P:Program} {ρ₀ ρ:Ro} {A:Own} {e:Env} {ty t t':TypeId} {x y:Operand} {v:Value}
end
theorem Axn {α:Type} [Dat α] {C:Ctx} {b:FB} {l₀:List Oper} {Q:Env→List Deferred→Ro→Own→Prop} {e:Env} {ds:List Deferred} {ρ ρ₀:Ro} {σ A:Own} {pz:List Nat} {fuel:Nat} {li:List Bool} {v:Value} {el:TypeId} {xs:List α} {gr:Own} (hg:Grow ρ el v xs gr) (hA:∀ p ∈ A,p ∈ σ)
  (h:∀ ρ',Ro.le ρ ρ'→Val ρ' v xs→El C b l₀.toArray Q pz (leO ρ₀ A) (fuel + 1) li.toArray e ds ρ' σ):El C b l₀.toArray Q pz (leO ρ₀ A) (fuel + 1) li.toArray e ds ρ (gr ++ σ):=by
 rcases hg.2.2 with ⟨h1,h2⟩ | ⟨r,cap,cs,rs,gb,h1,h2,h3,h4,h5⟩
 ·refine Ayd (Vn hg.1) (fun hS=>⟨hS.1,hA⟩) (h ρ .refl ?_)
  rw [h1,h2]; exact Gx
 ·subst h2
  by_cases hb:ρ r = none
  ·have hle:Ro.le ρ (ρ.add r (.cells (cs ++ rs).toArray el (0,0))):=fun x ox hx=>by
    unfold Ro.add; rw [if_neg (fun e=>by rw [e,hb] at hx; cases hx)]; exact hx
   show El C b l₀.toArray Q pz (leO ρ₀ A) (fuel + 1) li.toArray e ds ρ ((r,_) :: (gb ++ σ))
   exact Ayd ((Ghost.freeze hb).trans (Vn fun p hp=>hg.1 p (List.mem_cons_of_mem _ hp))) (fun hS=>⟨hS.1.trans hle,hA⟩) (h _ hle (Grow.val (rs:=rs) (el:=el) hg.2.1 h1 (h3.mono hle) h5 (by simp [Ro.add])))
  ·exact .inl fun W hs=>absurd (hs.dj r (List.mem_cons_self ..)) hb
end
section
open Go Go.WideShapes
/-- A number without a sign of two bytes. -/
structure UH where
 n:Nat
 lt:n < 65536
instance:Dat UH where
 k:=1
 agg:=false
 rep _ cs x:=cs = [.int .u16 (x.n:Int)]
 mono _ h:=h
 len h:=by rw [h]; rfl
 sgl h:=by rw [h]; simp [single]
 one _:=rfl
section
variable {H:Type} {enc:TypeId × Value→H} {W:World} {r:Reach} {base t:Nat} {v:Value} {d:DataW H} {p:List MemPlace}
theorem Bfi (ht:Tryd.prog.underlying t = some (.int .u8)) (hv:Value.okWide Tryd.prog W r base t v) (h:DataW.Trod enc Tryd.prog W 0 (fun _=>true) true t v d p):∃ n:Nat,v = .int .u8 (n:Int)∧n < 256:=by
 obtain ⟨n,rfl⟩:=okWide_int ht hv
 obtain ⟨fuel,hf⟩:=h
 obtain ⟨m,h1,_,h3⟩:=DataW.trod_int (cs:=[.int .u8 n]) ht hf
 simp [Lit.wf,IntKind.min,IntKind.max,IntKind.signed,IntKind.bits] at h3
 obtain rfl:n = m:=by simpa using h1
 exact ⟨n.toNat,by rw [Int.toNat_of_nonneg (by omega)],by omega⟩
end
end
section
open Go
theorem Ayt:∀ {l:List Nat} {f b i x y:Nat},asc f b l→l[i]? = some x→l[i + 1]? = some y→x < y
 | [],_,_,_,_,_,_,h,_=>by simp at h
 | a :: l,f,b,0,x,y,⟨_,_,h⟩,hx,hy=>by
  simp only [List.getElem?_cons_zero,Option.some.injEq] at hx
  subst hx
  have:=Avc h y (List.mem_of_getElem? (by simpa using hy))
  omega
 | a :: l,f,b,i + 1,x,y,⟨_,_,h⟩,hx,hy=>Ayt (i:=i) h (by simpa using hx) (by simpa using hy)
theorem Bcr {l:List Nat}:Avy (Bw l) = l:=by
 unfold Avy Bw
 rw [List.map_map]
 have:(Int.toNat ∘ Int.ofNat) = id:=by funext x; rfl
 rw [this,List.map_id]
theorem Axp {m:Market} {l:List Nat} (h:Cf m = 0) (ha:asc 0 m.sales.length l):Auf m (Bw l) = 0:=by
 unfold Auf
 rw [Jx]
 refine ⟨h,Fx.2 fun j hj=>?_⟩
 have hj':j < l.length:=by simpa [Bw] using hj
 have hx:l[j]? = some l[j]:=List.getElem?_eq_getElem hj'
 have hx':(Bw l)[j]? = some ((l[j]:Nat):Int):=by simp [Bw,hx]
 have hm:=Avc ha l[j] (List.getElem_mem hj')
 refine Bcv hx' (Fz.2 ⟨by omega,by omega⟩) ?_
 rcases Nat.eq_zero_or_pos j with h0 | h0
 ·exact .inl h0
 ·have hp:l[j - 1]? = some l[j - 1]:=List.getElem?_eq_getElem (by omega)
  refine .inr ⟨((l[j - 1]:Nat):Int),by simp [Bw,hp],?_⟩
  have:=Ayt (i:=j - 1) ha hp (by rw [show j - 1 + 1 = j by omega]; exact hx)
  omega
theorem Bbq {m:Market} {l:List Nat} (h:Cf m = 0) (ha:asc 0 m.sales.length l):Avv m (Bw l) = Bq m l:=by
 unfold Avv
 rw [if_pos (Axp h ha),Bcr]
theorem Aza {m:Market} (h:Cf m = 0):Auf m (Ahs m) = 0∧Avv m (Ahs m) = Ahr m:=by
 unfold Ahs Ahr
 rw [if_pos h,if_pos h]
 exact ⟨Axp h (Avd m).1,Bbq h (Avd m).1⟩
theorem Ayz {m:Market} (h:Cf m = 0):0 ≤ Ahr m:=by
 unfold Ahr; rw [if_pos h]; exact Auz (Rg h)
theorem Bfu {m:Market}:rest m 0 = m:=by
 unfold rest
 have:(m.sales.filter fun s=>!Je 0 s) = m.sales:=by
  rw [List.filter_eq_self]
  intro s _
  simp [Je,Cu]
 rw [this]
theorem Bac {m:Market} (h:Cf m = 0):Ahr m = 0↔Fj m 0 = true:=by
 rw [← Bab h 0,Bfu,beq_iff_eq]
theorem Bah {m:Market} {n x:Nat}:x ∈ lv m n↔x < 1 <<< m.houses.length∧De x = n∧Fj m x = true:=by
 unfold lv Ani
 rw [List.mem_filter,List.mem_range,Bool.and_eq_true,beq_iff_eq]
theorem Bgn {m:Market} {n x:Nat} (h:x ∈ lv m n):(!(lv m n).isEmpty) = true:=by
 cases hl:lv m n with
 | nil=>rw [hl] at h; cases h
 | cons a l=>rfl
theorem Bcj {m:Market} (ok:MarketOk m):(∃ x,x ∈ lv m (Abc m))∧∀ j,j < Abc m→∀ x,x ∉ lv m j:=by
 obtain ⟨n,hn,he⟩:=Ali ok
 unfold Abc
 rcases Ft (n:=m.houses.length + 1) (p:=fun n=>!(lv m n).isEmpty) with ⟨i,_,hp,hlt,hf⟩ | ⟨h1,_⟩
 ·rw [hf]
  refine ⟨?_,fun j hj x hx=>?_⟩
  ·show ∃ x,x ∈ lv m i
   cases hl:lv m i with
   | nil=>simp only [hl] at hp; cases hp
   | cons a l=>exact ⟨a,List.mem_cons_self ..⟩
  ·have h2:=hlt j hj
   have h3:=Bgn hx
   rw [h2] at h3; cases h3
 ·have:=h1 n hn
  rw [he] at this; cases this
theorem Bfp {m:Market} (ok:MarketOk m) {x:Nat} (hx:x < 1 <<< m.houses.length) (he:Fj m x = true):Abc m ≤ De x:=by
 rcases Nat.lt_or_ge (De x) (Abc m) with h | h
 ·exact absurd (Bah.2 ⟨hx,rfl,he⟩) ((Bcj ok).2 _ h x)
 ·exact h
theorem Bcq {m:Market} (ok:MarketOk m) {n x:Nat} (h:x ∈ lv m n):x < 32:=by
 have:=(Bah.1 h).1
 have h5:=(Alu (Hn ok)).2
 omega
theorem Bck {m:Market} (ok:MarketOk m):Abc m = 0↔Fj m 0 = true:=by
 constructor
 ·intro h
  obtain ⟨x,hx⟩:=(Bcj ok).1
  rw [h] at hx
  have hm:=Bah.1 hx
  have:=Ais (Bcq ok hx) hm.2.1
  rw [this] at hm; exact hm.2.2
 ·intro h
  have:=Bfp ok (x:=0) (by have:=(Alu (Hn ok)).1; omega) h
  have e:De 0 = 0:=by decide
  omega
theorem Bea {m:Market} (h:Cf m = 0):Ahr m > 0↔Akw m > 0:=by
 have h1:=Bac h
 have h2:=Bck (Rg h)
 have h3:=Ayz h
 unfold Akw
 rw [if_pos h]
 constructor
 ·intro h4
  have:¬ Abc m = 0:=fun h5=>by have:=h1.2 (h2.1 h5); omega
  omega
 ·intro h4
  have:¬ Ahr m = 0:=fun h5=>by have:=h2.2 (h1.1 h5); omega
  omega
structure DryHeat where
 dries:Int
 burns:Int
deriving DecidableEq
instance:Dat DryHeat:=.iso fun x=>(x.dries,x.burns)
theorem DryHeat.open_ {ρ:Ro} {v:Value} {x:DryHeat} (h:Val ρ v x):v = .agg #[.int .i64 x.dries,.int .i64 x.burns]∧I64 x.dries∧I64 x.burns:=by
 obtain ⟨cs,⟨q0,r0,f0,⟨a1,b1⟩,⟨a2,b2⟩⟩,hv⟩:=h
 subst f0
 subst a1
 subst a2
 exact ⟨hv,b1,b2⟩
theorem DryHeat.shut {ρ:Ro} {x:DryHeat} (h0:I64 x.dries) (h1:I64 x.burns):Val ρ (.agg #[.int .i64 x.dries,.int .i64 x.burns]) x:=⟨[.int .i64 x.dries,.int .i64 x.burns],⟨[.int .i64 x.dries],[.int .i64 x.burns],rfl,⟨rfl,h0⟩,⟨rfl,h1⟩⟩,rfl⟩
structure DryState where
 water:Int
 colour:Int
 heat:Int
deriving DecidableEq
instance:Dat DryState:=.iso fun x=>(x.water,(x.colour,x.heat))
theorem DryState.open_ {ρ:Ro} {v:Value} {x:DryState} (h:Val ρ v x):v = .agg #[.int .i64 x.water,.int .i64 x.colour,.int .i64 x.heat]∧I64 x.water∧I64 x.colour∧I64 x.heat:=by
 obtain ⟨cs,⟨q0,r0,f0,⟨a1,b1⟩,⟨q2,r2,f2,⟨a3,b3⟩,⟨a4,b4⟩⟩⟩,hv⟩:=h
 subst f0
 subst f2
 subst a1
 subst a3
 subst a4
 exact ⟨hv,b1,b3,b4⟩
theorem DryState.shut {ρ:Ro} {x:DryState} (h0:I64 x.water) (h1:I64 x.colour) (h2:I64 x.heat):Val ρ (.agg #[.int .i64 x.water,.int .i64 x.colour,.int .i64 x.heat]) x:=⟨[.int .i64 x.water,.int .i64 x.colour,.int .i64 x.heat],⟨[.int .i64 x.water],([.int .i64 x.colour] ++ [.int .i64 x.heat]),rfl,⟨rfl,h0⟩,⟨[.int .i64 x.colour],[.int .i64 x.heat],rfl,⟨rfl,h1⟩,⟨rfl,h2⟩⟩⟩,rfl⟩
structure DryStep where
 damp:Span
 tended:Bool
 water:Span
 colour:Int
deriving DecidableEq
instance:Dat DryStep:=.iso fun x=>(x.damp,(x.tended,(x.water,x.colour)))
theorem DryStep.open_ {ρ:Ro} {v:Value} {x:DryStep} (h:Val ρ v x):v = .agg #[.int .i64 x.damp.low,.int .i64 x.damp.high,.bool x.tended,.int .i64 x.water.low,.int .i64 x.water.high,.int .i64 x.colour]∧I64 x.damp.low∧I64 x.damp.high∧I64 x.water.low∧I64 x.water.high∧I64 x.colour:=by
 obtain ⟨cs,⟨q0,r0,f0,⟨q1,r1,f1,⟨a2,b2⟩,⟨a3,b3⟩⟩,⟨q4,r4,f4,a5,⟨q6,r6,f6,⟨q7,r7,f7,⟨a8,b8⟩,⟨a9,b9⟩⟩,⟨a10,b10⟩⟩⟩⟩,hv⟩:=h
 subst f1
 subst f0
 subst f4
 subst f7
 subst f6
 subst a2
 subst a3
 (have a5':=a5; simp only [Dat.rep] at a5'; subst a5')
 subst a8
 subst a9
 subst a10
 exact ⟨hv,b2,b3,b8,b9,b10⟩
theorem DryStep.shut {ρ:Ro} {x:DryStep} (h0:I64 x.damp.low) (h1:I64 x.damp.high) (h2:I64 x.water.low) (h3:I64 x.water.high) (h4:I64 x.colour):Val ρ (.agg #[.int .i64 x.damp.low,.int .i64 x.damp.high,.bool x.tended,.int .i64 x.water.low,.int .i64 x.water.high,.int .i64 x.colour]) x:=⟨[.int .i64 x.damp.low,.int .i64 x.damp.high,.bool x.tended,.int .i64 x.water.low,.int .i64 x.water.high,.int .i64 x.colour],⟨([.int .i64 x.damp.low] ++ [.int .i64 x.damp.high]),([.bool x.tended] ++ (([.int .i64 x.water.low] ++ [.int .i64 x.water.high]) ++ [.int .i64 x.colour])),rfl,⟨[.int .i64 x.damp.low],[.int .i64 x.damp.high],rfl,⟨rfl,h0⟩,⟨rfl,h1⟩⟩,⟨[.bool x.tended],(([.int .i64 x.water.low] ++ [.int .i64 x.water.high]) ++ [.int .i64 x.colour]),rfl,rfl,⟨([.int .i64 x.water.low] ++ [.int .i64 x.water.high]),[.int .i64 x.colour],rfl,⟨[.int .i64 x.water.low],[.int .i64 x.water.high],rfl,⟨rfl,h2⟩,⟨rfl,h3⟩⟩,⟨rfl,h4⟩⟩⟩⟩,rfl⟩
structure Drying where
 heats:List DryHeat
 soak:Int
 brittle:Int
 start:DryState
 steps:List DryStep
deriving DecidableEq
instance:Dat Drying:=.iso fun x=>(x.heats,(x.soak,(x.brittle,(x.start,x.steps))))
theorem Drying.open_ {ρ:Ro} {v:Value} {x:Drying} (h:Val ρ v x):∃ c0 c1,v = .agg #[c0,.int .i64 x.soak,.int .i64 x.brittle,.int .i64 x.start.water,.int .i64 x.start.colour,.int .i64 x.start.heat,c1]∧Val ρ c0 x.heats∧I64 x.soak∧I64 x.brittle∧I64 x.start.water∧I64 x.start.colour∧I64 x.start.heat∧Val ρ c1 x.steps:=by
 obtain ⟨cs,⟨q0,r0,f0,⟨w1,a1,b1⟩,⟨q2,r2,f2,⟨a3,b3⟩,⟨q4,r4,f4,⟨a5,b5⟩,⟨q6,r6,f6,⟨q7,r7,f7,⟨a8,b8⟩,⟨q9,r9,f9,⟨a10,b10⟩,⟨a11,b11⟩⟩⟩,⟨w12,a12,b12⟩⟩⟩⟩⟩,hv⟩:=h
 subst f0
 subst f2
 subst f4
 subst f7
 subst f9
 subst f6
 subst a1
 subst a3
 subst a5
 subst a8
 subst a10
 subst a11
 subst a12
 exact ⟨w1,w12,hv,Cs.2 b1,b3,b5,b8,b10,b11,Cs.2 b12⟩
theorem Drying.shut {ρ:Ro} {x:Drying} {c0 c1:Value} (h0:Val ρ c0 x.heats) (h1:I64 x.soak) (h2:I64 x.brittle) (h3:I64 x.start.water) (h4:I64 x.start.colour) (h5:I64 x.start.heat) (h6:Val ρ c1 x.steps):Val ρ (.agg #[c0,.int .i64 x.soak,.int .i64 x.brittle,.int .i64 x.start.water,.int .i64 x.start.colour,.int .i64 x.start.heat,c1]) x:=⟨[c0,.int .i64 x.soak,.int .i64 x.brittle,.int .i64 x.start.water,.int .i64 x.start.colour,.int .i64 x.start.heat,c1],⟨[c0],([.int .i64 x.soak] ++ ([.int .i64 x.brittle] ++ (([.int .i64 x.start.water] ++ ([.int .i64 x.start.colour] ++ [.int .i64 x.start.heat])) ++ [c1]))),rfl,⟨c0,rfl,Cs.1 h0⟩,⟨[.int .i64 x.soak],([.int .i64 x.brittle] ++ (([.int .i64 x.start.water] ++ ([.int .i64 x.start.colour] ++ [.int .i64 x.start.heat])) ++ [c1])),rfl,⟨rfl,h1⟩,⟨[.int .i64 x.brittle],(([.int .i64 x.start.water] ++ ([.int .i64 x.start.colour] ++ [.int .i64 x.start.heat])) ++ [c1]),rfl,⟨rfl,h2⟩,⟨([.int .i64 x.start.water] ++ ([.int .i64 x.start.colour] ++ [.int .i64 x.start.heat])),[c1],rfl,⟨[.int .i64 x.start.water],([.int .i64 x.start.colour] ++ [.int .i64 x.start.heat]),rfl,⟨rfl,h3⟩,⟨[.int .i64 x.start.colour],[.int .i64 x.start.heat],rfl,⟨rfl,h4⟩,⟨rfl,h5⟩⟩⟩,⟨c1,rfl,Cs.1 h6⟩⟩⟩⟩⟩,rfl⟩
structure DWindow where
 step:DryStep
deriving DecidableEq
instance:Dat DWindow:=.iso fun x=>x.step
theorem DWindow.open_ {ρ:Ro} {v:Value} {x:DWindow} (h:Val ρ v x):v = .agg #[.int .i64 x.step.damp.low,.int .i64 x.step.damp.high,.bool x.step.tended,.int .i64 x.step.water.low,.int .i64 x.step.water.high,.int .i64 x.step.colour]∧I64 x.step.damp.low∧I64 x.step.damp.high∧I64 x.step.water.low∧I64 x.step.water.high∧I64 x.step.colour:=by
 obtain ⟨cs,⟨q0,r0,f0,⟨q1,r1,f1,⟨a2,b2⟩,⟨a3,b3⟩⟩,⟨q4,r4,f4,a5,⟨q6,r6,f6,⟨q7,r7,f7,⟨a8,b8⟩,⟨a9,b9⟩⟩,⟨a10,b10⟩⟩⟩⟩,hv⟩:=h
 subst f1
 subst f0
 subst f4
 subst f7
 subst f6
 subst a2
 subst a3
 (have a5':=a5; simp only [Dat.rep] at a5'; subst a5')
 subst a8
 subst a9
 subst a10
 exact ⟨hv,b2,b3,b8,b9,b10⟩
theorem DWindow.shut {ρ:Ro} {x:DWindow} (h0:I64 x.step.damp.low) (h1:I64 x.step.damp.high) (h2:I64 x.step.water.low) (h3:I64 x.step.water.high) (h4:I64 x.step.colour):Val ρ (.agg #[.int .i64 x.step.damp.low,.int .i64 x.step.damp.high,.bool x.step.tended,.int .i64 x.step.water.low,.int .i64 x.step.water.high,.int .i64 x.step.colour]) x:=⟨[.int .i64 x.step.damp.low,.int .i64 x.step.damp.high,.bool x.step.tended,.int .i64 x.step.water.low,.int .i64 x.step.water.high,.int .i64 x.step.colour],⟨([.int .i64 x.step.damp.low] ++ [.int .i64 x.step.damp.high]),([.bool x.step.tended] ++ (([.int .i64 x.step.water.low] ++ [.int .i64 x.step.water.high]) ++ [.int .i64 x.step.colour])),rfl,⟨[.int .i64 x.step.damp.low],[.int .i64 x.step.damp.high],rfl,⟨rfl,h0⟩,⟨rfl,h1⟩⟩,⟨[.bool x.step.tended],(([.int .i64 x.step.water.low] ++ [.int .i64 x.step.water.high]) ++ [.int .i64 x.step.colour]),rfl,rfl,⟨([.int .i64 x.step.water.low] ++ [.int .i64 x.step.water.high]),[.int .i64 x.step.colour],rfl,⟨[.int .i64 x.step.water.low],[.int .i64 x.step.water.high],rfl,⟨rfl,h2⟩,⟨rfl,h3⟩⟩,⟨rfl,h4⟩⟩⟩⟩,rfl⟩
structure Stage where
 window:DWindow
 heats:Int
deriving DecidableEq
instance:Dat Stage:=.iso fun x=>(x.window,x.heats)
theorem Stage.open_ {ρ:Ro} {v:Value} {x:Stage} (h:Val ρ v x):v = .agg #[.int .i64 x.window.step.damp.low,.int .i64 x.window.step.damp.high,.bool x.window.step.tended,.int .i64 x.window.step.water.low,.int .i64 x.window.step.water.high,.int .i64 x.window.step.colour,.int .i64 x.heats]∧I64 x.window.step.damp.low∧I64 x.window.step.damp.high∧I64 x.window.step.water.low∧I64 x.window.step.water.high∧I64 x.window.step.colour∧I64 x.heats:=by
 obtain ⟨cs,⟨q0,r0,f0,⟨q1,r1,f1,⟨q2,r2,f2,⟨a3,b3⟩,⟨a4,b4⟩⟩,⟨q5,r5,f5,a6,⟨q7,r7,f7,⟨q8,r8,f8,⟨a9,b9⟩,⟨a10,b10⟩⟩,⟨a11,b11⟩⟩⟩⟩,⟨a12,b12⟩⟩,hv⟩:=h
 subst f2
 subst f1
 subst f5
 subst f8
 subst f7
 subst f0
 subst a3
 subst a4
 (have a6':=a6; simp only [Dat.rep] at a6'; subst a6')
 subst a9
 subst a10
 subst a11
 subst a12
 exact ⟨hv,b3,b4,b9,b10,b11,b12⟩
theorem Stage.shut {ρ:Ro} {x:Stage} (h0:I64 x.window.step.damp.low) (h1:I64 x.window.step.damp.high) (h2:I64 x.window.step.water.low) (h3:I64 x.window.step.water.high) (h4:I64 x.window.step.colour) (h5:I64 x.heats):Val ρ (.agg #[.int .i64 x.window.step.damp.low,.int .i64 x.window.step.damp.high,.bool x.window.step.tended,.int .i64 x.window.step.water.low,.int .i64 x.window.step.water.high,.int .i64 x.window.step.colour,.int .i64 x.heats]) x:=⟨[.int .i64 x.window.step.damp.low,.int .i64 x.window.step.damp.high,.bool x.window.step.tended,.int .i64 x.window.step.water.low,.int .i64 x.window.step.water.high,.int .i64 x.window.step.colour,.int .i64 x.heats],⟨(([.int .i64 x.window.step.damp.low] ++ [.int .i64 x.window.step.damp.high]) ++ ([.bool x.window.step.tended] ++ (([.int .i64 x.window.step.water.low] ++ [.int .i64 x.window.step.water.high]) ++ [.int .i64 x.window.step.colour]))),[.int .i64 x.heats],rfl,⟨([.int .i64 x.window.step.damp.low] ++ [.int .i64 x.window.step.damp.high]),([.bool x.window.step.tended] ++ (([.int .i64 x.window.step.water.low] ++ [.int .i64 x.window.step.water.high]) ++ [.int .i64 x.window.step.colour])),rfl,⟨[.int .i64 x.window.step.damp.low],[.int .i64 x.window.step.damp.high],rfl,⟨rfl,h0⟩,⟨rfl,h1⟩⟩,⟨[.bool x.window.step.tended],(([.int .i64 x.window.step.water.low] ++ [.int .i64 x.window.step.water.high]) ++ [.int .i64 x.window.step.colour]),rfl,rfl,⟨([.int .i64 x.window.step.water.low] ++ [.int .i64 x.window.step.water.high]),[.int .i64 x.window.step.colour],rfl,⟨[.int .i64 x.window.step.water.low],[.int .i64 x.window.step.water.high],rfl,⟨rfl,h2⟩,⟨rfl,h3⟩⟩,⟨rfl,h4⟩⟩⟩⟩,⟨rfl,h5⟩⟩,rfl⟩
structure Stove where
 d:Drying
 stages:List Stage
deriving DecidableEq
instance:Dat Stove:=.iso fun x=>(x.d,x.stages)
theorem Stove.open_ {ρ:Ro} {v:Value} {x:Stove} (h:Val ρ v x):∃ c0 c1 c2,v = .agg #[c0,.int .i64 x.d.soak,.int .i64 x.d.brittle,.int .i64 x.d.start.water,.int .i64 x.d.start.colour,.int .i64 x.d.start.heat,c1,c2]∧Val ρ c0 x.d.heats∧I64 x.d.soak∧I64 x.d.brittle∧I64 x.d.start.water∧I64 x.d.start.colour∧I64 x.d.start.heat∧Val ρ c1 x.d.steps∧Val ρ c2 x.stages:=by
 obtain ⟨cs,⟨q0,r0,f0,⟨q1,r1,f1,⟨w2,a2,b2⟩,⟨q3,r3,f3,⟨a4,b4⟩,⟨q5,r5,f5,⟨a6,b6⟩,⟨q7,r7,f7,⟨q8,r8,f8,⟨a9,b9⟩,⟨q10,r10,f10,⟨a11,b11⟩,⟨a12,b12⟩⟩⟩,⟨w13,a13,b13⟩⟩⟩⟩⟩,⟨w14,a14,b14⟩⟩,hv⟩:=h
 subst f1
 subst f3
 subst f5
 subst f8
 subst f10
 subst f7
 subst f0
 subst a2
 subst a4
 subst a6
 subst a9
 subst a11
 subst a12
 subst a13
 subst a14
 exact ⟨w2,w13,w14,hv,Cs.2 b2,b4,b6,b9,b11,b12,Cs.2 b13,Cs.2 b14⟩
theorem Stove.shut {ρ:Ro} {x:Stove} {c0 c1 c2:Value} (h0:Val ρ c0 x.d.heats) (h1:I64 x.d.soak) (h2:I64 x.d.brittle) (h3:I64 x.d.start.water) (h4:I64 x.d.start.colour) (h5:I64 x.d.start.heat) (h6:Val ρ c1 x.d.steps) (h7:Val ρ c2 x.stages):Val ρ (.agg #[c0,.int .i64 x.d.soak,.int .i64 x.d.brittle,.int .i64 x.d.start.water,.int .i64 x.d.start.colour,.int .i64 x.d.start.heat,c1,c2]) x:=⟨[c0,.int .i64 x.d.soak,.int .i64 x.d.brittle,.int .i64 x.d.start.water,.int .i64 x.d.start.colour,.int .i64 x.d.start.heat,c1,c2],⟨([c0] ++ ([.int .i64 x.d.soak] ++ ([.int .i64 x.d.brittle] ++ (([.int .i64 x.d.start.water] ++ ([.int .i64 x.d.start.colour] ++ [.int .i64 x.d.start.heat])) ++ [c1])))),[c2],rfl,⟨[c0],([.int .i64 x.d.soak] ++ ([.int .i64 x.d.brittle] ++ (([.int .i64 x.d.start.water] ++ ([.int .i64 x.d.start.colour] ++ [.int .i64 x.d.start.heat])) ++ [c1]))),rfl,⟨c0,rfl,Cs.1 h0⟩,⟨[.int .i64 x.d.soak],([.int .i64 x.d.brittle] ++ (([.int .i64 x.d.start.water] ++ ([.int .i64 x.d.start.colour] ++ [.int .i64 x.d.start.heat])) ++ [c1])),rfl,⟨rfl,h1⟩,⟨[.int .i64 x.d.brittle],(([.int .i64 x.d.start.water] ++ ([.int .i64 x.d.start.colour] ++ [.int .i64 x.d.start.heat])) ++ [c1]),rfl,⟨rfl,h2⟩,⟨([.int .i64 x.d.start.water] ++ ([.int .i64 x.d.start.colour] ++ [.int .i64 x.d.start.heat])),[c1],rfl,⟨[.int .i64 x.d.start.water],([.int .i64 x.d.start.colour] ++ [.int .i64 x.d.start.heat]),rfl,⟨rfl,h3⟩,⟨[.int .i64 x.d.start.colour],[.int .i64 x.d.start.heat],rfl,⟨rfl,h4⟩,⟨rfl,h5⟩⟩⟩,⟨c1,rfl,Cs.1 h6⟩⟩⟩⟩⟩,⟨c2,rfl,Cs.1 h7⟩⟩,rfl⟩
def Bhl (d:Drying) (s:DryState):Prop:=(0 ≤ s.water∧s.water ≤ d.start.water)∧(0 ≤ s.colour∧s.colour ≤ 1000)∧(0 ≤ s.heat∧s.heat ≤ (d.heats.length:Int) - 1)
/-- The key of a state. -/
def stK (s:DryState):List Int:=[s.water,s.colour,s.heat]
end
section
open Go
def Bbz (C:Ctx) (l:Nat) (x:Value × Value) (ρ:Ro) (σ:Own) (R:Value→Ro→Own→Prop):Prop :=
 ∀ rd ds,wpS C.P ρ (Instr.yield l #[x.1,x.2]) σ (NextH C (fun v ds' ρ' σ'=>ds' = ds∧R v ρ' σ') rd ds ρ)
def IterF2 (f:Value) (ρ₀:Ro) (ys:List (Value × Value)):Prop :=
 ∃ (k:FuncId) (fn:Func) (caps:List Value),f = .func (.func k) #[] caps.toArray∧Tryd.prog.funcs[k]? = some fn∧(fn.name == "runtime.NumGoroutine") = false∧fn.body.isNone = false ∧
  ∀ (mn:Bool) (X:Frame→List Frame→Ro→Own→Cy→Prop) (l:Nat) (I:List (Value × Value)→Ro→Own→Prop) (ρ:Ro) (σ:Own),Ro.le ρ₀ ρ→(∀ pre ρ ρ' σ,Ro.le ρ ρ'→I pre ρ σ→I pre ρ' σ)→I [] ρ σ →
   (∀ pre x post ρ' σ',ys = pre ++ x :: post→Ro.le ρ ρ'→I pre ρ' σ'→Bbz (CX mn X) l x ρ' σ' (fun v ρ'' σ''=>v = .bool true∧Ro.le ρ' ρ''∧I (pre ++ [x]) ρ'' σ'')) →
   CallsH (CX mn X) k (.func (.yield l) #[] #[] :: caps).toArray ρ σ (fun _ ρ' σ'=>Ro.le ρ ρ'∧I ys ρ' σ')
theorem IterF2.mono {ρ₀ ρ₁:Ro} {f:Value} {ys:List (Value × Value)} (h:Ro.le ρ₀ ρ₁):IterF2 f ρ₀ ys→IterF2 f ρ₁ ys:=fun ⟨k,fn,caps,h1,h2,h3,h4,h5⟩=>⟨k,fn,caps,h1,h2,h3,h4,fun mn X l I ρ σ hle=>h5 mn X l I ρ σ (h.trans hle)⟩
section
variable {mn:Bool} {X:Frame→List Frame→Ro→Own→Cy→Prop} {b:FB} {n:Nat} {e:Env} {ds:List Deferred} {ρ:Ro} {σ:Own} {K:Value→List Deferred→Ro→Own→Prop} {rd:Option Nat} {dd:Option Tmp}
variable {ty:TypeId} {pos:String} {af:Array Edge} {g:Option (Nat × Bool)} {x y z:Operand} {v v2 p:Value} {t t':TypeId}
end
end
section
open Go
/-- A key: numbers side by side. -/
def Bhn (k:List Int):Value:=.agg (k.map (Value.int .i64)).toArray
section
variable {C:Ctx} {e:Env} {ds:List Deferred} {ρ:Ro} {σ:Own} {K:Value→List Deferred→Ro→Own→Prop} {rd:Option Nat} {dd:Option Tmp}
variable {ty:TypeId} {pos:String} {af:Array Edge} {g:Option (Nat × Bool)} {x y u:Operand} {v p:Value} {t t':TypeId} {P:Program}
/-- Entries as they are told: key,value,stamp. -/
abbrev Ent:=List Int × Value × Nat
def mkE (z:Ent):MapEntry:=⟨Bhn z.1,z.2.1,z.2.2⟩
end
end
section
open Go
/-- What a map holds,in the order in which it came. -/
structure MapL (n:Nat) (es:Array MapEntry) (ck:Nat) (l:List Ent):Prop where
 es:es.toList = l.map mkE
 len:∀ z ∈ l,z.1.length = n
 keys:(l.map (·.1)).Nodup
 born:(l.map (·.2.2)).Nodup
 lt:∀ z ∈ l,z.2.2 < ck
section
variable {C:Ctx} {e:Env} {ds:List Deferred} {ρ:Ro} {σ:Own} {K:Value→List Deferred→Ro→Own→Prop} {rd:Option Nat} {dd:Option Tmp}
variable {ty:TypeId} {pos:String} {af:Array Edge} {g:Option (Nat × Bool)} {x y u:Operand} {v p:Value} {t t':TypeId} {P:Program}
end
end
section
open Go
abbrev MapAt (ρ:Ro) (r:Nat) (es:Array MapEntry) (ck:Nat):Prop:=ρ r = some (.map es ck)
theorem MapAt.mono {ρ ρ':Ro} {r:Nat} {es:Array MapEntry} {ck:Nat} (h:Ro.le ρ ρ') (hm:MapAt ρ r es ck):MapAt ρ' r es ck:=h _ _ hm
/-- A map that is only read: a set of states,among them t. -/
def SetS (ρ:Ro) (r:Nat) (d:Drying) (t:DryState):Prop:=∃ es ck l,MapAt ρ r es ck∧MapL 3 es ck l∧(∀ z ∈ l,∃ s,z.1 = stK s∧Bhl d s)∧∃ z ∈ l,z.1 = stK t
theorem SetS.mono {ρ ρ':Ro} {r:Nat} {d:Drying} {t:DryState} (h:Ro.le ρ ρ'):SetS ρ r d t→SetS ρ' r d t:=fun ⟨es,ck,l,h1,h2⟩=>⟨es,ck,l,h1.mono h,h2⟩
theorem Axm {α:Type} [DecidableEq α]:∀ {dn l:List α},dn.Nodup→(∀ z ∈ dn,z ∈ l)→dn.length ≤ l.length
 | [],_,_,_=>Nat.zero_le _
 | a :: dn,l,h,hs=>by
  rw [List.nodup_cons] at h
  have h1:=Axm (dn:=dn) (l:=l.erase a) h.2 fun z hz=>(List.mem_erase_of_ne (show z ≠ a from fun e=>h.1 (by rw [← e]; exact hz))).2 (hs z (List.mem_cons_of_mem _ hz))
  have h2:(l.erase a).length = l.length - 1:=List.length_erase_of_mem (hs a (List.mem_cons_self ..))
  have h3:0 < l.length:=List.length_pos_of_mem (hs a (List.mem_cons_self ..))
  rw [List.length_cons]; omega
end
section
set_option maxHeartbeats 1000000
open Go
section
variable {ρ:Ro} {σ:Own} {m:Market} {g:Int} {vm vl:Value}
theorem Bba (h0:Cf m = 0) (hg:Ahr m = g) (rm:Val ρ vm m):CallsH (CX true (Ade Tryd.prog)) 18 #[vm] ρ σ (fun w ρ' σ'=>Ro.le ρ ρ'∧σ' = σ∧∃ v0,w = (.tuple #[(.int .i64 g),v0,(z0)])∧Val ρ' v0 (Ahs m:List Int)):=by
 have h:=Aeh (mn:=true) (X:=Ade Tryd.prog) (σ:=σ) rm
 rw [h0,hg] at h; exact h
theorem Baz (h0:Cf m = 0) (rm:Val ρ vm m) (hnr:Jp σ):CallsH (CX true (Ade Tryd.prog)) 19 #[vm] ρ σ (fun w ρ' σ'=>Ro.le ρ ρ'∧σ' = σ∧∃ v0,w = (.tuple #[(iV (Akw m)),v0,(z0)])∧Val ρ' v0 (Akx m:List Int)):=by
 have h:=Agt rm hnr
 rw [h0] at h; exact h
theorem Bbc (h0:Cf m = 0) (hg:Ahr m = g) (rm:Val ρ vm m) (rl:Val ρ vl (Ahs m:List Int)):CallsH (CX true (Ade Tryd.prog)) 31 #[vm,vl] ρ σ (rP ρ σ (.tuple #[(.int .i64 g),(z0)])):=by
 have h:=Bbb (mn:=true) (X:=Ade Tryd.prog) (σ:=σ) rm rl
 rw [(Aza h0).1,(Aza h0).2,hg] at h; exact h
theorem Awe (h0:Cf m = 0) (rm:Val ρ vm m):CallsH (CX true (Ade Tryd.prog)) 30 #[vm] ρ σ (rP ρ σ (z0)):=by
 have h:=Awz (mn:=true) (X:=Ade Tryd.prog) (σ:=σ) rm
 rw [h0] at h; exact h
theorem Bct (h0:Cf m = 0) (hg:Ahr m = g):(decide (Akw m > 0) == decide (g > 0)) = true:=by
 have h:=Bea h0
 rw [hg] at h
 by_cases hc:Akw m > 0
 ·rw [decide_eq_true hc,decide_eq_true (h.2 hc)]; rfl
 ·rw [decide_eq_false hc,decide_eq_false (fun x=>hc (h.1 x))]; rfl
end
set_option maxHeartbeats 1000000 in
theorem Bch  {ρ:Ro} {σ:Own} {m:Market} {g:Int} {vm:Value} (hnr:Jp σ) (rm:Val ρ vm m) (h0:Cf m = 0) (hgr:Ahr m = g):CallsH (CX true (Ade Tryd.prog)) 9 #[vm,(iV (g))] ρ σ (fun w ρ' σ'=>Ro.le ρ ρ'∧σ' = σ∧w = .bool true):=by
 refine Bh (n:=61) (args:=[vm,(iV (g))]) [4] Tryd.func9 rfl rfl rfl rfl fun Q hret hnor=>w_q rfl rfl fun K1 k1=>Arv (Eb (v:=vm) rfl fun k2=>?_)
 refine Bb (a:=m) rm fun ρ2 l2 r2=>Lo (.bool (false)) (Ary rfl rfl k1 fun K3 K4 k3 k4=>Arw (Ax Ln rfl r2) fun v5 r5=>Arv (Bm (Awe h0 r5) Tryd.func30 rfl rfl ⟨rfl,trivial⟩ ?_))
 refine l_v (Dg rfl rfl) (l_k k4 (Cg rfl rfl (Al (k3 _ _ _ _ ?_))))
 refine w_q rfl rfl fun K6 k6=>Arw (Ax Ln rfl r2) fun v7 r7=>Arv (Cm (vs:=[v7]) (Bba h0 hgr r7) Tryd.func18 rfl rfl ⟨rfl,trivial⟩ fun w8 ρ8 σ8 hc8=>?_)
 obtain ⟨l8,s8,v8_0,w8e,r8_0⟩:=hc8
 replace s8:=s8.symm; subst s8 w8e
 replace r2:=Bmg l8 r2
 refine Asf (.tuple #[(iV (g)),v8_0,(iV (0))]) (l_v (Bk (vs:=#[(iV (g)),v8_0,(iV (0))]) rfl (v:=(iV (g))) rfl) (l_v (Bk (vs:=#[(iV (g)),v8_0,(iV (0))]) rfl (v:=v8_0) rfl) (l_v (Bk (vs:=#[(iV (g)),v8_0,(iV (0))]) rfl (v:=(iV (0))) rfl) (Lo (iV (g)) (Lo v8_0 (Lo (iV (0)) (Arx rfl rfl k6 fun K9 k9=>Arw (Ax Ln rfl r2) fun v10 r10=>Arv (Cm (vs:=[v10]) (Baz h0 r10 hnr) Tryd.func19 rfl rfl ⟨rfl,trivial⟩ fun w11 ρ11 σ11 hc11=>?_))))))))
 obtain ⟨l11,s11,v11_0,w11e,r11_0⟩:=hc11
 replace s11:=s11.symm; subst s11 w11e
 replace r2:=Bmg l11 r2
 replace r8_0:=Bmo l11 r8_0
 refine Asf (.tuple #[(iV (Akw m)),v11_0,(iV (0))]) (l_v (Bk (vs:=#[(iV (Akw m)),v11_0,(iV (0))]) rfl (v:=(iV (Akw m))) rfl) (l_v (Bk (vs:=#[(iV (Akw m)),v11_0,(iV (0))]) rfl (v:=v11_0) rfl) (l_v (Bk (vs:=#[(iV (Akw m)),v11_0,(iV (0))]) rfl (v:=(iV (0))) rfl) (Lo (iV (Akw m)) (Lo v11_0 (Lo (iV (0)) (Arx rfl rfl k9 fun K12 k12=>Arw (Ax Ln rfl r2) fun v13 r13=>Asf v8_0 (Arv (Bm (Bbc h0 hgr r13 r8_0) Tryd.func31 rfl rfl ⟨rfl,rfl,trivial⟩ ?_)))))))))
 refine Asf (.tuple #[(iV (g)),(iV (0))]) (l_v (Bk (vs:=#[(iV (g)),(iV (0))]) rfl (v:=(iV (g))) rfl) (l_v (Bk (vs:=#[(iV (g)),(iV (0))]) rfl (v:=(iV (0))) rfl) (Lo (iV (g)) (Lo (iV (0)) (Arx rfl rfl k12 fun K14 k14=>Asf (iV (0)) (l_v (Ek rfl rfl) (Asf (.bool (true)) (l_M (iV (0)) (gY rfl rfl) rfl (Aa (gY rfl rfl) (Ek rfl rfl) (l_v (Bt rfl rfl (v:=(.bool (true))) rfl) (Asf (.bool (true)) (l_M (iV (0)) (gY rfl rfl) rfl (Aa (gY rfl rfl) (Ek rfl rfl) (l_v (Bt rfl rfl (v:=(.bool (true))) rfl) (Asf (.bool (true)) (l_M (iV (g)) (gY rfl rfl) rfl (l_M (iV (g)) (gY rfl rfl) rfl (Aa (gY rfl rfl) (Ek rfl rfl) (l_v (Bt rfl rfl (v:=(.bool (g == g))) rfl) (Asf (.bool (g == g)) (l_M (iV (g)) (gY rfl (by simp)) rfl (l_M (iV (g)) (gY rfl (by simp)) rfl (Aa (gY rfl (by simp)) (Ek rfl rfl) (l_v (Bt rfl (by simp) (v:=(.bool (g == g))) rfl) (Asf (.bool (g == g)) (l_M (iV (Akw m)) (gY rfl (by simp)) rfl (Aa (gY rfl (by simp)) (Gl rfl rfl) (l_M (iV (g)) (gY rfl (by simp)) rfl (Aa (gY rfl (by simp)) (Gl rfl rfl) (Aa (gY rfl (by simp)) (Bga Bjf (p:=decide (Akw m > 0)) (q:=decide (g > 0)) rfl rfl) (l_v (Bt rfl (by simp) (v:=(.bool ((decide (Akw m > 0)) == (decide (g > 0))))) rfl) (Lo (.bool ((decide (Akw m > 0)) == (decide (g > 0)))) (l_k k14 (Aq (hret _ _ _ (⟨(Bmm (Bmm l2 l8) l11),rfl,rfl.trans ?_⟩))))))))))))))))))))))))))))))))))))
 show Value.bool _ = _
 rw [Bct h0 hgr]
end
end Go.Proofs.YtphgjjmlnkgghaaDoor
