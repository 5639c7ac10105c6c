/- Part 6 of what all laws of layer 8 need: a logic of programs that start goroutines, and what the functions yield. -/
import Derived.Test.YtphgjjmlnkgghaaGreatDoorB5
set_option linter.unusedVariables false
set_option linter.unusedSimpArgs false
set_option maxRecDepth 100000
namespace Go.Proofs.YtphgjjmlnkgghaaGreatDoor
section
set_option maxHeartbeats 1000000
open Go
variable {mn:Bool} {X:Frame→List Frame→Ro→Own→Cy→Prop} {ρ:Ro} {σ:Own}
theorem Bfv {x y:Bnd} {vx vy:Value} (rx:Val ρ vx x) (ry:Val ρ vy y):CallsH (CX mn X) 156 #[vx,vy] ρ σ (fun w ρ' σ'=>Ro.le ρ ρ'∧σ' = σ∧Val ρ' w ((⟨max x.low y.low,min x.high y.high⟩:Bnd):Bnd)):=by
 refine Lt (n:=16) (args:=[vx,vy]) [.cell 4 282] Tryz.func156 rfl rfl rfl rfl fun Q hret hnor=>w_q rfl rfl fun K1 k1=>Arv (Eb (v:=vx) rfl fun k2=>?_)
 refine Bb (a:=x) rx fun ρ2 l2 r2=>?_
 replace ry:=Boq l2 ry
 refine Arv (Eb (v:=vy) rfl fun k3=>?_)
 refine Bb (a:=y) ry fun ρ3 l3 r3=>?_
 replace r2:=At.mono l3 r2
 refine Arv (Ct Avx fun k4=>?_)
 refine Arx rfl rfl k1 fun K5 k5=>Arw (Ay Bnd.f_low Big rfl rfl ty3 (by decide) rfl r2) fun v6 r6=>?_
 have ⟨g7a,g7b⟩:=At.rng r6
 refine l_v (Bc ty3 rfl r6) (Arw (Ay Bnd.f_low Big rfl rfl ty3 (by decide) rfl r3) fun v8 r8=>?_)
 have ⟨g9a,g9b⟩:=At.rng r8
 refine l_v (Bc ty3 rfl r8) (l_v (Aqf (p:=x.low) (q:=y.low) rfl rfl) (Arw (Ay Bnd.f_high Big rfl rfl ty3 (by decide) rfl r2) fun v10 r10=>?_))
 have ⟨g11a,g11b⟩:=At.rng r10
 refine l_v (Bc ty3 rfl r10) (Arw (Ay Bnd.f_high Big rfl rfl ty3 (by decide) rfl r3) fun v12 r12=>?_)
 have ⟨g13a,g13b⟩:=At.rng r12
 refine l_v (Bc ty3 rfl r12) (l_v (Ajx (p:=x.high) (q:=y.high) rfl rfl) ?_)
 have r14:Val ρ3 (.agg #[(iV ((max x.low y.low))),(iV ((min x.high y.high)))]) (⟨(max x.low y.low),(min x.high y.high)⟩:Bnd):=Bnd.shut (x:=(⟨(max x.low y.low),(min x.high y.high)⟩:Bnd)) (show I64 ((max x.low y.low)) from by constructor <;> omega) (show I64 ((min x.high y.high)) from by constructor <;> omega)
 refine l_v (Dn (ns:=[1,1]) (vs:=[(0,(iV ((max x.low y.low)))),(1,(iV ((min x.high y.high))))]) (zc:=Bcm) (cs:=[(iV ((max x.low y.low))),(iV ((min x.high y.high)))]) Big Avx rfl ⟨⟨_,Ab Bhq,rfl⟩,⟨_,Ab Bhq,rfl⟩,trivial⟩ (EvB.map ⟨⟨rfl,rfl⟩,⟨rfl,rfl⟩,trivial⟩) ((Be (cs:=[(iV ((max x.low y.low)))]) rfl rfl (Nat.le_of_ble_eq_true rfl)).trans ((Be (cs:=[(iV ((min x.high y.high)))]) rfl rfl (Nat.le_of_ble_eq_true rfl)).trans rfl))) (Cx rfl (Li (i:=0) (vs:=[(iV ((max x.low y.low))),(iV ((min x.high y.high)))]) (c':=[(iV ((max x.low y.low))),(iV ((min x.high y.high)))]) ⟨_,Ab Bjg,rfl⟩ rfl rfl rfl rfl (Zh ⟨rfl,rfl,trivial⟩) rfl (Nat.le_of_ble_eq_true rfl) rfl ?_))
 refine l_k k5 (Aq ?_)
 have r15:Val ρ3 (.agg #[(iV ((max x.low y.low))),(iV ((min x.high y.high)))]) (⟨(max x.low y.low),(min x.high y.high)⟩:Bnd):=Bnd.shut (x:=(⟨(max x.low y.low),(min x.high y.high)⟩:Bnd)) (show I64 ((max x.low y.low)) from by constructor <;> omega) (show I64 ((min x.high y.high)) from by constructor <;> omega)
 refine hret _ _ _ _ _ [(.agg #[(iV ((max x.low y.low))),(iV ((min x.high y.high)))])] ⟨(Qh ⟨_,Big,rfl⟩ ⟨_,Ab Bjg,rfl⟩ rfl (i:=0) rfl rfl),trivial⟩ Boj (⟨(Boo l2 l3),rfl,Abz (v:=(.agg #[(iV ((max x.low y.low))),(iV ((min x.high y.high)))])) rfl (Val.cast ?_ r15)⟩)
 ·rfl
theorem Atj {x:Span} {vx:Value} (rx:Val ρ vx x):CallsH (CX mn X) 157 #[vx] ρ σ (fun w ρ' σ'=>Ro.le ρ ρ'∧σ' = σ∧Val ρ' w ((⟨x.low,x.high⟩:Bnd):Bnd)):=by
 refine Lt (n:=8) (args:=[vx]) [.cell 2 282] Blv rfl rfl rfl rfl fun Q hret hnor=>w_q rfl rfl fun K1 k1=>Arv (Eb (v:=vx) rfl fun k2=>?_)
 refine Bb (a:=x) rx fun ρ2 l2 r2=>Arv (Ct Avx fun k3=>?_)
 refine Arx rfl rfl k1 fun K4 k4=>Arw (Ay Span.f_low Bhu rfl rfl ty3 (by decide) rfl r2) fun v5 r5=>?_
 have ⟨g6a,g6b⟩:=At.rng r5
 refine l_v (Bc ty3 rfl r5) (Arw (Ay Span.f_high Bhu rfl rfl ty3 (by decide) rfl r2) fun v7 r7=>?_)
 have ⟨g8a,g8b⟩:=At.rng r7
 refine l_v (Bc ty3 rfl r7) ?_
 have r9:Val ρ2 (.agg #[(iV (x.low)),(iV (x.high))]) (⟨x.low,x.high⟩:Bnd):=Bnd.shut (x:=(⟨x.low,x.high⟩:Bnd)) (show I64 (x.low) from by constructor <;> omega) (show I64 (x.high) from by constructor <;> omega)
 refine l_v (Dn (ns:=[1,1]) (vs:=[(0,(iV (x.low))),(1,(iV (x.high)))]) (zc:=Bcm) (cs:=[(iV (x.low)),(iV (x.high))]) Big Avx rfl ⟨⟨_,Ab Bhq,rfl⟩,⟨_,Ab Bhq,rfl⟩,trivial⟩ (EvB.map ⟨⟨rfl,rfl⟩,⟨rfl,rfl⟩,trivial⟩) ((Be (cs:=[(iV (x.low))]) rfl rfl (Nat.le_of_ble_eq_true rfl)).trans ((Be (cs:=[(iV (x.high))]) rfl rfl (Nat.le_of_ble_eq_true rfl)).trans rfl))) (Cx rfl (Li (i:=0) (vs:=[(iV (x.low)),(iV (x.high))]) (c':=[(iV (x.low)),(iV (x.high))]) ⟨_,Ab Bjg,rfl⟩ rfl rfl rfl rfl (Zh ⟨rfl,rfl,trivial⟩) rfl (Nat.le_of_ble_eq_true rfl) rfl ?_))
 refine l_k k4 (Aq ?_)
 have r10:Val ρ2 (.agg #[(iV (x.low)),(iV (x.high))]) (⟨x.low,x.high⟩:Bnd):=Bnd.shut (x:=(⟨x.low,x.high⟩:Bnd)) (show I64 (x.low) from by constructor <;> omega) (show I64 (x.high) from by constructor <;> omega)
 refine hret _ _ _ _ _ [(.agg #[(iV (x.low)),(iV (x.high))])] ⟨(Qh ⟨_,Big,rfl⟩ ⟨_,Ab Bjg,rfl⟩ rfl (i:=0) rfl rfl),trivial⟩ Boj (⟨l2,rfl,Abz (v:=(.agg #[(iV (x.low)),(iV (x.high))])) rfl (Val.cast ?_ r10)⟩)
 ·rfl
set_option maxHeartbeats 2000000 in
theorem Bej {b:TBook} {vb:Value} (rb:Val ρ vb b) (ok:TBookOk b):CallsH (CX mn X) 124 #[vb,(iV ((-1)))] ρ σ (fun w ρ' σ'=>Ro.le ρ ρ'∧σ' = σ∧∃ v,w = v∧At ρ' v (Bfb b)):=by
 have hl12:=Awu ok
 have hn8:=ok.nsteps
 have hn10:=ok.nscales
 refine Bh (n:=175) (args:=[vb,(iV ((-1)))]) [4] Tryz.func124 rfl rfl rfl rfl fun Q hret hnor=>w_q rfl rfl fun K1 k1=>Arv (Eb (v:=vb) rfl fun k2=>?_)
 refine Bb (a:=b) rb fun ρ2 l2 r2=>Bma (.pointer none) (Arx rfl rfl k1 fun K3 k3=>Arw (Ay TBook.f_steps Bhr rfl rfl Mx (by decide) rfl r2) fun v4 r4=>Arw (Ax Mx rfl r4) fun v5 r5=>?_)
 have g6:=Bop r5
 refine l_v (Ci (el:=176) Bih rfl r5) (Bma (iV (((b.steps.length:Nat):Int))) (Arx rfl rfl k3 fun K7 k7=>Bmb (iV (((b.steps.length:Nat):Int))) (Bmb (iV (((b.steps.length:Nat):Int))) (l_v (Br rfl rfl (z:=(((b.steps.length + 1):Nat):Int)) wrE) ?_))))
 have r8:Val ρ2 (.agg #[(nS),(iV (((b.steps.length:Nat):Int))),(iV ((((b.steps.length + 1):Nat):Int)))]) (⟨[],((b.steps.length:Nat):Int),(((b.steps.length + 1):Nat):Int)⟩:Web):=Web.shut (x:=(⟨[],((b.steps.length:Nat):Int),(((b.steps.length + 1):Nat):Int)⟩:Web)) Gx (show I64 (((b.steps.length:Nat):Int)) from by constructor <;> omega) (show I64 ((((b.steps.length + 1):Nat):Int)) from by constructor <;> omega)
 refine l_v (Dn (ns:=[1,1,1]) (vs:=[(1,(iV (((b.steps.length:Nat):Int)))),(2,(iV ((((b.steps.length + 1):Nat):Int))))]) (zc:=Bhh) (cs:=[(nS),(iV (((b.steps.length:Nat):Int))),(iV ((((b.steps.length + 1):Nat):Int)))]) Bjj Bhi rfl ⟨⟨_,Ab Bjm,rfl⟩,⟨_,Ab Bhq,rfl⟩,⟨_,Ab Bhq,rfl⟩,trivial⟩ (EvB.map ⟨⟨rfl,rfl⟩,⟨rfl,rfl⟩,trivial⟩) ((Be (cs:=[(iV (((b.steps.length:Nat):Int)))]) rfl rfl (Nat.le_of_ble_eq_true rfl)).trans ((Be (cs:=[(iV ((((b.steps.length + 1):Nat):Int)))]) rfl rfl (Nat.le_of_ble_eq_true rfl)).trans rfl))) (Arv (Eb (v:=(.agg #[(nS),(iV (((b.steps.length:Nat):Int))),(iV ((((b.steps.length + 1):Nat):Int)))])) rfl fun k9=>?_))
 refine Bma (.pointer (some ⟨k9,0,none⟩)) (Arx rfl rfl k7 fun K10 k10=>Arv (Oh fun k11=>?_))
 refine Arv (Oh fun k12=>?_)
 refine Bma (.map (some k11)) (Bma (.map (some k12)) (Ary rfl rfl k10 fun K13 K14 k13 k14=>Arw (Ay TBook.f_steps Bhr rfl rfl Mx (by decide) rfl r2) fun v15 r15=>Arw (Ax Mx rfl r15) fun v16 r16=>?_))
 have g17:=Bop r16
 refine l_v (Ci (el:=176) Bih rfl r16) (Bmb (iV (0)) (l_k k14 (Ao (Cc (fun mm ee dd ρ' σ'=>∃ (j:Nat) (me18_0:Array MapEntry) (mc18_0:Nat) (me18_1:Array MapEntry) (mc18_1:Nat),(b.steps.length - j) = mm∧[] = dd∧ρ2 = ρ'∧((k12,Res.obj (Obj.map me18_1 mc18_1)) :: ((k11,Res.obj (Obj.map me18_0 mc18_0)) :: ((k9,oC #[(nS),(iV (((b.steps.length:Nat):Int))),(iV ((((b.steps.length + 1):Nat):Int)))] 279) :: σ))) = σ'∧ee 1 = (iV ((-1)))∧ee 2 = (.pointer (some ⟨k2,0,none⟩))∧ee 5 = (iV (((b.steps.length:Nat):Int)))∧ee 6 = (.pointer (some ⟨k9,0,none⟩))∧ee 7 = (.map (some k11))∧ee 8 = (.map (some k12))∧ee 35 = v16∧ee 36 = (iV (((b.steps.length:Nat):Int)))∧ee 37 = (iV ((j:Int)))∧(j ≤ b.steps.length)∧(Atz me18_0 mc18_0 (Atx b j) ((fun c:Int=>Value.int .i64 ((As b c:Nat):Int))))∧(Atz me18_1 mc18_1 (Ash b j) ((fun c:Int=>Value.int .i64 ((Ast b c:Nat):Int))))∧True) (m:=_) ⟨0,#[],0,#[],0,rfl,rfl,rfl,rfl,rfl,rfl,rfl,rfl,rfl,rfl,rfl,rfl,rfl,(Nat.zero_le _),(Auc (rfl) (Avj (v:=(fun c:Int=>Value.int .i64 ((As b c:Nat):Int))))),(Auc (rfl) (Avj (v:=(fun c:Int=>Value.int .i64 ((Ast b c:Nat):Int))))),trivial⟩ ?_))))
 rintro m18 e18 _ _ _ ⟨j,me18_0,mc18_0,me18_1,mc18_1,rfl,rfl,rfl,rfl,h18_1,h18_2,h18_5,h18_6,h18_7,h18_8,h18_35,h18_36,h18_37,p18_0,p18_1,p18_2,_⟩
 refine w_q rfl rfl fun K19 k19=>l_v (Da h18_37 h18_36) (Asa k19 fun K20 k20=>Up (t:=decide ((j:Int) < ((b.steps.length:Nat):Int))) rfl (fun b21=>?_) (fun b21=>?_))
 ·have q21:=of_decide_eq_true b21
  refine Al (k20 _ _ _ _ ?_)
  refine Ai fun K22 k22=>Ao (w_q rfl rfl fun K23 k23=>l_v (Ah (v:=(iV ((j:Int)))) h18_37) ?_)
  obtain ⟨a25,ha25⟩:=Ed (xs:=b.steps) (i:=j) (by omega)
  have hsoa25:=ok.step j a25 ha25; have hhda25:=hsoa25.hand; have hgaa25:=hsoa25.gain; have hloa25:=hsoa25.loss; have hola25:=hsoa25.outLen ok; have hila25:=hsoa25.inLen ok
  refine Arw (Ch j Bih Atb h18_35 r16 (q:=(j:Int)) h18_37 rfl ha25) fun v24 r24=>Arw (Ax Atb rfl r24) fun v26 r26=>Arv (Ct Ayd fun k27=>?_)
  refine Bma (iV ((j:Int))) (Cx rfl (Dv (v:=v26) (a:=a25) (c:=Bab) Atb rfl rfl r26 rfl ?_))
  refine Bb (a:=a25) r26 fun ρ28 l28 r28=>Ary rfl rfl k23 fun K29 K30 k29 k30=>Arw (Ay TStep.f_in_ Bht rfl rfl Vh (by decide) rfl r28) fun v31 r31=>Arw (Ax Vh rfl r31) fun v32 r32=>?_
  have g33:=Bop r32
  refine l_v (Ci (el:=3) Bho rfl r32) (Bmb (iV (0)) (l_k k30 (Ao (Cc (fun mm ee dd ρ' σ'=>∃ (k:Nat) (me34_1:Array MapEntry) (mc34_1:Nat),(a25.in_.length - k) = mm∧[] = dd∧ρ28 = ρ'∧((k12,Res.obj (Obj.map me34_1 mc34_1)) :: ((k11,Res.obj (Obj.map me18_0 mc18_0)) :: ((k9,oC #[(nS),(iV (((b.steps.length:Nat):Int))),(iV ((((b.steps.length + 1):Nat):Int)))] 279) :: σ))) = σ'∧ee 1 = (iV ((-1)))∧ee 2 = (.pointer (some ⟨k2,0,none⟩))∧ee 5 = (iV (((b.steps.length:Nat):Int)))∧ee 6 = (.pointer (some ⟨k9,0,none⟩))∧ee 7 = (.map (some k11))∧ee 8 = (.map (some k12))∧ee 9 = (iV ((j:Int)))∧ee 10 = (.pointer (some ⟨k27,0,none⟩))∧ee 35 = v16∧ee 36 = (iV (((b.steps.length:Nat):Int)))∧ee 37 = (iV ((j:Int)))∧ee 43 = v32∧ee 44 = (iV (((a25.in_.length:Nat):Int)))∧ee 45 = (iV ((k:Int)))∧(k ≤ a25.in_.length)∧(Atz me34_1 mc34_1 (Ash b j ++ a25.in_.take k) ((fun c:Int=>Value.int .i64 ((Ast b c:Nat):Int))))∧True) (m:=_) ⟨0,me18_1,mc18_1,rfl,rfl,rfl,rfl,h18_1,h18_2,h18_5,h18_6,h18_7,h18_8,rfl,rfl,h18_35,h18_36,h18_37,rfl,rfl,rfl,(Nat.zero_le _),(Auc ((by rw [List.take_zero,List.append_nil])) p18_2),trivial⟩ ?_))))
  rintro m34 e34 _ _ _ ⟨k,me34_1,mc34_1,rfl,rfl,rfl,rfl,h34_1,h34_2,h34_5,h34_6,h34_7,h34_8,h34_9,h34_10,h34_35,h34_36,h34_37,h34_43,h34_44,h34_45,p34_0,p34_1,_⟩
  refine w_q rfl rfl fun K35 k35=>l_v (Da h34_45 h34_44) (Asa k35 fun K36 k36=>Up (t:=decide ((k:Int) < ((a25.in_.length:Nat):Int))) rfl (fun b37=>?_) (fun b37=>?_))
  ·have q37:=of_decide_eq_true b37
   refine Al (k36 _ _ _ _ ?_)
   refine Ai fun K38 k38=>Ao (w_q rfl rfl fun K39 k39=>?_)
   obtain ⟨a41,ha41⟩:=Ed (xs:=a25.in_) (i:=k) (by omega)
   have hina41:=(hsoa25.ins k a41 ha41).1
   refine Arw (Ch k Bho ty3 h34_43 r32 (q:=(k:Int)) h34_45 rfl ha41) fun v40 r40=>?_
   have ⟨g42a,g42b⟩:=At.rng r40
   refine l_v (Bc ty3 rfl r40) (Bma (iV (a41)) (l_k k39 (Ag rfl rfl (l_v (Ah (v:=(.map (some k12))) h34_8) (Bmb (iV (a41)) (l_v (Ah (v:=(iV ((j:Int)))) h34_9) (Cx rfl (Azw (i:=0) Bls Bhv p34_1 (Awt ok ha25 ha41) (Bfa ok ha25 ha41) rfl rfl rfl rfl fun es43 ck43 MK43=>?_))))))))
   refine l_k k38 (Ag rfl rfl (l_v (Br h34_45 rfl (z:=(((k + 1):Nat):Int)) wrE) (Bmb (iV ((((k + 1):Nat):Int))) (Ac ?_))))
   refine ⟨_,?_,((k + 1)),(es43),(ck43),rfl,rfl,rfl,rfl,h34_1,h34_2,h34_5,h34_6,h34_7,h34_8,h34_9,h34_10,h34_35,h34_36,h34_37,h34_43,h34_44,rfl,(by omega),(Auc ((by rw [List.append_assoc,List.take_add_one,ha41]; rfl)) MK43),trivial⟩
   omega
  have q37:=of_decide_eq_false b37
  refine Bx (k29 _ _ _ _ ?_)
  refine w_q rfl rfl fun K44 k44=>Arw (Ay TStep.f_out Bht rfl rfl Vh (by decide) h34_10 r28) fun v45 r45=>Arw (Ax Vh rfl r45) fun v46 r46=>?_
  have g47:=Bop r46
  refine l_v (Ci (el:=3) Bho rfl r46) (Bmb (iV (0)) (l_k k44 (Ao ?_)))
  have mu48:=Auc (show Ash b j ++ a25.in_.take k = Ash b j ++ a25.in_ by rw [List.take_of_length_le (by omega)]) p34_1
  refine Cc (fun mm ee dd ρ' σ'=>∃ (q:Nat) (me49_0:Array MapEntry) (mc49_0:Nat),(a25.out.length - q) = mm∧[] = dd∧ρ28 = ρ'∧((k12,Res.obj (Obj.map me34_1 mc34_1)) :: ((k11,Res.obj (Obj.map me49_0 mc49_0)) :: ((k9,oC #[(nS),(iV (((b.steps.length:Nat):Int))),(iV ((((b.steps.length + 1):Nat):Int)))] 279) :: σ))) = σ'∧ee 1 = (iV ((-1)))∧ee 2 = (.pointer (some ⟨k2,0,none⟩))∧ee 5 = (iV (((b.steps.length:Nat):Int)))∧ee 6 = (.pointer (some ⟨k9,0,none⟩))∧ee 7 = (.map (some k11))∧ee 8 = (.map (some k12))∧ee 9 = (iV ((j:Int)))∧ee 35 = v16∧ee 36 = (iV (((b.steps.length:Nat):Int)))∧ee 37 = (iV ((j:Int)))∧ee 54 = v46∧ee 55 = (iV (((a25.out.length:Nat):Int)))∧ee 56 = (iV ((q:Int)))∧(q ≤ a25.out.length)∧(Atz me49_0 mc49_0 (Atx b j ++ a25.out.take q) ((fun c:Int=>Value.int .i64 ((As b c:Nat):Int))))∧True) (m:=_) ⟨0,me18_0,mc18_0,rfl,rfl,rfl,rfl,h34_1,h34_2,h34_5,h34_6,h34_7,h34_8,h34_9,h34_35,h34_36,h34_37,rfl,rfl,rfl,(Nat.zero_le _),(Auc ((by rw [List.take_zero,List.append_nil])) p18_1),trivial⟩ ?_
  rintro m49 e49 _ _ _ ⟨q,me49_0,mc49_0,rfl,rfl,rfl,rfl,h49_1,h49_2,h49_5,h49_6,h49_7,h49_8,h49_9,h49_35,h49_36,h49_37,h49_54,h49_55,h49_56,p49_0,p49_1,_⟩
  refine w_q rfl rfl fun K50 k50=>l_v (Da h49_56 h49_55) (Asa k50 fun K51 k51=>Up (t:=decide ((q:Int) < ((a25.out.length:Nat):Int))) rfl (fun b52=>?_) (fun b52=>?_))
  ·have q52:=of_decide_eq_true b52
   refine Al (k51 _ _ _ _ ?_)
   refine Ai fun K53 k53=>Ao (w_q rfl rfl fun K54 k54=>?_)
   obtain ⟨a56,ha56⟩:=Ed (xs:=a25.out) (i:=q) (by omega)
   have hina56:=(hsoa25.outs q a56 ha56).1
   refine Arw (Ch q Bho ty3 h49_54 r46 (q:=(q:Int)) h49_56 rfl ha56) fun v55 r55=>?_
   have ⟨g57a,g57b⟩:=At.rng r55
   refine l_v (Bc ty3 rfl r55) (Bma (iV (a56)) (l_k k54 (Ag rfl rfl (l_v (Ah (v:=(.map (some k11))) h49_7) (Bmb (iV (a56)) (l_v (Ah (v:=(iV ((j:Int)))) h49_9) (Cx rfl (Azw (i:=1) Bls Bhv p49_1 (Avt ok ha25 ha56) (Bdv ok ha25 ha56) rfl rfl rfl rfl fun es58 ck58 MK58=>?_))))))))
   refine l_k k53 (Ag rfl rfl (l_v (Br h49_56 rfl (z:=(((q + 1):Nat):Int)) wrE) (Bmb (iV ((((q + 1):Nat):Int))) (Ac ?_))))
   refine ⟨_,?_,((q + 1)),(es58),(ck58),rfl,rfl,rfl,rfl,h49_1,h49_2,h49_5,h49_6,h49_7,h49_8,h49_9,h49_35,h49_36,h49_37,h49_54,h49_55,rfl,(by omega),(Auc ((by rw [List.append_assoc,List.take_add_one,ha56]; rfl)) MK58),trivial⟩
   omega
  have q52:=of_decide_eq_false b52
  refine Bx (k22 _ _ _ _ ?_)
  refine Ag rfl rfl (l_v (Br h49_37 rfl (z:=(((j + 1):Nat):Int)) wrE) (Bmb (iV ((((j + 1):Nat):Int))) (Bj (Bok l28) (Ac ?_))))
  refine ⟨_,?_,((j + 1)),(me49_0),(mc49_0),(me34_1),(mc34_1),rfl,rfl,rfl,rfl,h49_1,h49_2,h49_5,h49_6,h49_7,h49_8,h49_35,h49_36,rfl,(by omega),(Auc ((by rw [Ayj ha25,List.take_of_length_le (by omega)])) p49_1),(Auc ((by rw [Ayv ha25])) mu48),trivial⟩
  omega
 have q21:=of_decide_eq_false b21
 refine Bx (k13 _ _ _ _ ?_)
 refine Asb rfl rfl fun K59 K60 k59 k60=>Arw (Ay TBook.f_piles Bhr rfl rfl Hw (by decide) h18_2 r2) fun v61 r61=>Arw (Ax Hw rfl r61) fun v62 r62=>?_
 have g63:=Bop r62
 refine l_v (Ci (el:=9) Bhs rfl r62) (Bmb (iV (0)) (l_k k60 (Ao ?_)))
 have mu64:=Auc (show Atx b j = Atx b b.steps.length by rw [show j = b.steps.length by omega]) p18_1
 have mu65:=Auc (show Ash b j = Ash b b.steps.length by rw [show j = b.steps.length by omega]) p18_2
 refine Cc (fun mm ee dd ρ' σ'=>∃ (i:Nat) (ov66_6c0:Value) (og66_6c0:Own),(b.piles.length - i) = mm∧[] = dd∧Ro.le ρ2 ρ'∧(og66_6c0 ++ ((k12,Res.obj (Obj.map me18_1 mc18_1)) :: ((k11,Res.obj (Obj.map me18_0 mc18_0)) :: ((k9,oC #[ov66_6c0,(iV (((b.steps.length:Nat):Int))),(iV ((((b.steps.length + 1):Nat):Int)))] 279) :: σ)))) = σ'∧ee 1 = (iV ((-1)))∧ee 2 = (.pointer (some ⟨k2,0,none⟩))∧ee 5 = (iV (((b.steps.length:Nat):Int)))∧ee 6 = (.pointer (some ⟨k9,0,none⟩))∧ee 7 = (.map (some k11))∧ee 8 = (.map (some k12))∧ee 67 = (iV (((b.piles.length:Nat):Int)))∧ee 68 = (iV ((i:Int)))∧(i ≤ b.piles.length)∧Grow ρ' 286 ov66_6c0 (Atu b i) og66_6c0∧True) (m:=_) ⟨0,(nS),[],rfl,rfl,Bon,rfl,h18_1,h18_2,h18_5,h18_6,h18_7,h18_8,rfl,rfl,(Nat.zero_le _),(Fy (by simp [Atu]) Hm),trivial⟩ ?_
 rintro m66 e66 _ ρ66 _ ⟨i,ov66_6c0,og66_6c0,rfl,rfl,l66,rfl,h66_1,h66_2,h66_5,h66_6,h66_7,h66_8,h66_67,h66_68,p66_0,OG66_6c0,_⟩
 replace r2:=At.mono l66 r2
 have hpl66:=Axh (b:=b) (n:=i)
 refine w_q rfl rfl fun K67 k67=>l_v (Da h66_68 h66_67) (Asa k67 fun K68 k68=>Up (t:=decide ((i:Int) < ((b.piles.length:Nat):Int))) rfl (fun b69=>?_) (fun b69=>?_))
 ·have q69:=of_decide_eq_true b69
  refine Al (k68 _ _ _ _ ?_)
  refine Ai fun K70 k70=>Ao (w_q rfl rfl fun K71 k71=>l_v (Ah (v:=(iV ((i:Int)))) h66_68) (Bma (iV ((i:Int))) (Arx rfl rfl k71 fun K72 k72=>?_)))
  have r73:Val ρ66 (.agg #[(iV (0)),(iV (1000000))]) (⟨0,1000000⟩:Bnd):=Bnd.shut (x:=(⟨0,1000000⟩:Bnd)) (show I64 (0) from by constructor <;> omega) (show I64 (1000000) from by constructor <;> omega)
  refine l_v (Dn (ns:=[1,1]) (vs:=[(0,(iV (0))),(1,(iV (1000000)))]) (zc:=Bcm) (cs:=[(iV (0)),(iV (1000000))]) Big Avx rfl ⟨⟨_,Ab Bhq,rfl⟩,⟨_,Ab Bhq,rfl⟩,trivial⟩ (EvB.map ⟨⟨rfl,rfl⟩,⟨rfl,rfl⟩,trivial⟩) ((Be (cs:=[(iV (0))]) rfl rfl (Nat.le_of_ble_eq_true rfl)).trans ((Be (cs:=[(iV (1000000))]) rfl rfl (Nat.le_of_ble_eq_true rfl)).trans rfl))) (Arv (Ct Avx fun k74=>?_))
  refine Cx rfl (Li (i:=0) (vs:=[(iV (0)),(iV (1000000))]) (c':=[(iV (0)),(iV (1000000))]) ⟨_,Ab Bjg,rfl⟩ rfl rfl rfl rfl (Zh ⟨rfl,rfl,trivial⟩) rfl (Nat.le_of_ble_eq_true rfl) rfl ?_)
  refine Ary rfl rfl k72 fun K75 K76 k75 k76=>Arw (Ay TBook.f_scales Bhr rfl rfl Asy (by decide) h66_2 r2) fun v77 r77=>Arw (Ax Asy rfl r77) fun v78 r78=>?_
  have g79:=Bop r78
  refine l_v (Ci (el:=180) Bib rfl r78) (Bmb (iV (0)) (l_k k76 (Ao (Cc (fun mm ee dd ρ' σ'=>∃ (k:Nat) (lo:Int) (hi:Int),(b.scales.length - k) = mm∧[] = dd∧ρ66 = ρ'∧((k74,oC #[(iV (lo)),(iV (hi))] 282) :: (og66_6c0 ++ ((k12,Res.obj (Obj.map me18_1 mc18_1)) :: ((k11,Res.obj (Obj.map me18_0 mc18_0)) :: ((k9,oC #[ov66_6c0,(iV (((b.steps.length:Nat):Int))),(iV ((((b.steps.length + 1):Nat):Int)))] 279) :: σ))))) = σ'∧ee 1 = (iV ((-1)))∧ee 2 = (.pointer (some ⟨k2,0,none⟩))∧ee 5 = (iV (((b.steps.length:Nat):Int)))∧ee 6 = (.pointer (some ⟨k9,0,none⟩))∧ee 7 = (.map (some k11))∧ee 8 = (.map (some k12))∧ee 15 = (iV ((i:Int)))∧ee 16 = (.pointer (some ⟨k74,0,none⟩))∧ee 67 = (iV (((b.piles.length:Nat):Int)))∧ee 68 = (iV ((i:Int)))∧ee 73 = v78∧ee 74 = (iV (((b.scales.length:Nat):Int)))∧ee 75 = (iV ((k:Int)))∧(k ≤ b.scales.length)∧(Atq b (i:Int) k = ⟨lo,hi⟩)∧True) (m:=_) ⟨0,0,1000000,rfl,rfl,rfl,rfl,h66_1,h66_2,h66_5,h66_6,h66_7,h66_8,rfl,rfl,h66_67,h66_68,rfl,rfl,rfl,(Nat.zero_le _),rfl,trivial⟩ ?_))))
  rintro m80 e80 _ _ _ ⟨k,lo,hi,rfl,rfl,rfl,rfl,h80_1,h80_2,h80_5,h80_6,h80_7,h80_8,h80_15,h80_16,h80_67,h80_68,h80_73,h80_74,h80_75,p80_0,p80_1,_⟩
  have hbr80:=Avn ok (p:=(i:Int)) k
  rw [p80_1] at hbr80
  simp only at hbr80
  refine w_q rfl rfl fun K81 k81=>l_v (Da h80_75 h80_74) (Asa k81 fun K82 k82=>Up (t:=decide ((k:Int) < ((b.scales.length:Nat):Int))) rfl (fun b83=>?_) (fun b83=>?_))
  ·have q83:=of_decide_eq_true b83
   refine Al (k82 _ _ _ _ ?_)
   refine Ai fun K84 k84=>Ao (w_q rfl rfl fun K85 k85=>?_)
   obtain ⟨a87,ha87⟩:=Ed (xs:=b.scales) (i:=k) (by omega)
   have hsca87:=ok.scale k a87 ha87
   refine Arw (Ch k Bib Atn h80_73 r78 (q:=(k:Int)) h80_75 rfl ha87) fun v86 r86=>Arw (Ax Atn rfl r86) fun v88 r88=>Arv (Ct Avw fun k89=>?_)
   refine Cx rfl (Dv (v:=v88) (a:=a87) (c:=Bfl) Atn rfl rfl r88 rfl ?_)
   refine Bb (a:=a87) r88 fun ρ90 l90 r90=>Arx rfl rfl k85 fun K91 k91=>Arw (Ay TScale.f_pile Bjb rfl rfl ty3 (by decide) rfl r90) fun v92 r92=>?_
   have ⟨g93a,g93b⟩:=At.rng r92
   refine l_v (Bc ty3 rfl r92) (l_v (Ah (v:=(iV ((i:Int)))) h80_15) (l_v (Ek rfl rfl) (l_k k91 (Up (t:=a87.pile == (i:Int)) rfl (fun b94=>?_) (fun b94=>?_)))))
   ·have q94:=Jr b94
    refine Awj (((k74,oC #[(iV (lo)),(iV (hi))] 282) :: (og66_6c0 ++ ((k12,Res.obj (Obj.map me18_1 mc18_1)) :: ((k11,Res.obj (Obj.map me18_0 mc18_0)) :: ((k9,oC #[ov66_6c0,(iV (((b.steps.length:Nat):Int))),(iV ((((b.steps.length + 1):Nat):Int)))] 279) :: [])))))) [0,1,2,3,4] (by kernel_rfl) rfl rfl (Bmk 0 Biw rfl ⟨Bon,sB⟩ rfl (Axz (cs:=[(iV (lo)),(iV (hi))]) (rs:=[]) ⟨_,Big,rfl⟩ ⟨_,Ab Bjg,rfl⟩ h80_16 (List.mem_cons_self ..) rfl rfl) ?_)
    have r95:Val ρ90 (.agg #[(iV (lo)),(iV (hi))]) (⟨lo,hi⟩:Bnd):=Bnd.shut (x:=(⟨lo,hi⟩:Bnd)) (show I64 (lo) from by constructor <;> omega) (show I64 (hi) from by constructor <;> omega)
    refine Bmp 1 Bix rfl ⟨Bon,sB⟩ rfl (Axx (Ay TScale.f_mass Bjb rfl rfl ty65 (by decide) rfl r90)) ⟨Bon,sB⟩ fun v96 r96=>Bmp 2 Bgj rfl ⟨Bon,sB⟩ rfl (Axx (Ax ty65 rfl r96)) ⟨Bon,sB⟩ fun v97 r97=>Bmn 3 Bgk rfl rfl (Cm (vs:=[v97]) (Atj r97) Blv rfl rfl ⟨rfl,trivial⟩ fun v98 ρ98 σ98 hc98=>?_)
    obtain ⟨l98,s98,r98⟩:=hc98
    replace s98:=s98.symm; subst s98
    replace r95:=Boq l98 r95
    refine ⟨⟨l98,sB⟩,?_⟩
    refine Bmn 4 Bis rfl rfl (Cm (vs:=[(.agg #[(iV (lo)),(iV (hi))]),v98]) (Bfv r95 r98) Tryz.func156 rfl rfl ⟨rfl,rfl,trivial⟩ fun v99 ρ99 σ99 hc99=>?_)
    obtain ⟨l99,s99,r99⟩:=hc99
    replace s99:=s99.symm; subst s99
    refine ⟨⟨(Boo l98 l99),sB⟩,?_⟩
    obtain ⟨e100_,⟨i100_1a,i100_1b⟩,⟨i100_2a,i100_2b⟩⟩:=Bnd.open_ r99
    have e100_c:v99.cells = [(iV (max (lo) (a87.mass.low))),(iV (min (hi) (a87.mass.high)))].toArray:=by rw [e100_]; rfl
    refine Bmm 5 Bit rfl rfl (Li (i:=0) (vs:=[(iV (max (lo) (a87.mass.low))),(iV (min (hi) (a87.mass.high)))]) (c':=[(iV (max (lo) (a87.mass.low))),(iV (min (hi) (a87.mass.high)))]) ⟨_,Ab Bjg,rfl⟩ h80_16 rfl e100_c rfl (Zh ⟨rfl,rfl,trivial⟩) rfl (Nat.le_of_ble_eq_true rfl) rfl ?_)
    refine Bat rfl (k84 _ _ _ _ ?_)
    refine Ag rfl rfl (l_v (Br h80_75 rfl (z:=(((k + 1):Nat):Int)) wrE) (Bmb (iV ((((k + 1):Nat):Int))) (Bj (Bok (Boo (Boo l90 l98) l99)) (Ac ?_))))
    refine ⟨_,?_,((k + 1)),(max (lo) (a87.mass.low)),(min (hi) (a87.mass.high)),rfl,rfl,rfl,rfl,h80_1,h80_2,h80_5,h80_6,h80_7,h80_8,h80_15,h80_16,h80_67,h80_68,h80_73,h80_74,rfl,(by omega),(Bfr ha87 p80_1 q94),trivial⟩
    omega
   have q94:=Jq b94
   refine Al (k84 _ _ _ _ ?_)
   refine Ag rfl rfl (l_v (Br h80_75 rfl (z:=(((k + 1):Nat):Int)) wrE) (Bmb (iV ((((k + 1):Nat):Int))) (Bj (Bok l90) (Ac ?_))))
   refine ⟨_,?_,((k + 1)),(lo),(hi),rfl,rfl,rfl,rfl,h80_1,h80_2,h80_5,h80_6,h80_7,h80_8,h80_15,h80_16,h80_67,h80_68,h80_73,h80_74,rfl,(by omega),(Beb ha87 p80_1 q94),trivial⟩
   omega
  have q83:=of_decide_eq_false b83
  refine Bx (k75 _ _ _ _ ?_)
  refine w_q rfl rfl fun K101 k101=>l_v (Ah (v:=(.map (some k12))) h80_8) (l_v (Ah (v:=(iV ((i:Int)))) h80_15) ?_)
  have hus102:(if ((i:Int)) ∈ Ash b b.steps.length then Ast b ((i:Int)) else 0) ≤ b.steps.length:=by have:=Bdh (b:=b) (p:=((i:Int))); split <;> omega
  refine Avs ⟨Bon,fun _ h=>h⟩ rfl (Bfk Bls Bhv zr3 mu65 rfl rfl (List.mem_cons_of_mem _ (List.mem_append_right _ (List.mem_cons_self ..)))) (Bmb (.tuple #[(iV ((((if ((i:Int)) ∈ Ash b b.steps.length then Ast b ((i:Int)) else 0):Nat):Int))),(.bool (decide (((i:Int)) ∈ Ash b b.steps.length)))]) (l_v (Bk (vs:=#[(iV ((((if ((i:Int)) ∈ Ash b b.steps.length then Ast b ((i:Int)) else 0):Nat):Int))),(.bool (decide (((i:Int)) ∈ Ash b b.steps.length)))]) rfl (v:=(iV ((((if ((i:Int)) ∈ Ash b b.steps.length then Ast b ((i:Int)) else 0):Nat):Int)))) rfl) (l_v (Bk (vs:=#[(iV ((((if ((i:Int)) ∈ Ash b b.steps.length then Ast b ((i:Int)) else 0):Nat):Int))),(.bool (decide (((i:Int)) ∈ Ash b b.steps.length)))]) rfl (v:=(.bool (decide (((i:Int)) ∈ Ash b b.steps.length)))) rfl) (Bma (iV ((((if ((i:Int)) ∈ Ash b b.steps.length then Ast b ((i:Int)) else 0):Nat):Int))) (Bma (.bool (decide (((i:Int)) ∈ Ash b b.steps.length))) (Ary rfl rfl k101 fun K103 K104 k103 k104=>Bmb (.bool (decide (((i:Int)) ∈ Ash b b.steps.length))) (l_v (Iy rfl) (l_k k104 (Up (t:=!(decide (((i:Int)) ∈ Ash b b.steps.length))) rfl (fun b105=>?_) (fun b105=>?_))))))))))
  ·have b106:=not_eq_t b105
   have q106:=of_decide_eq_false b106
   refine Ag rfl rfl (l_v (Ah (v:=(iV (((b.steps.length:Nat):Int)))) h80_5) (Bma (iV (((b.steps.length:Nat):Int))) (l_k k103 (Awj (((k74,oC #[(iV (lo)),(iV (hi))] 282) :: ((k12,Res.obj (Obj.map me18_1 mc18_1)) :: ((k11,Res.obj (Obj.map me18_0 mc18_0)) :: ((k9,oC #[ov66_6c0,(iV (((b.steps.length:Nat):Int))),(iV ((((b.steps.length + 1):Nat):Int)))] 279) :: []))))) [0,1,2,3,4,5,6,7,8,9,10,11,12,14] (by kernel_rfl) rfl rfl (Bmk 0 zZ9 rfl ⟨Bon,sB⟩ rfl (Yld.o (Ah (v:=(.pointer (some ⟨k9,0,none⟩))) h80_6)) (Bmk 1 Ajy rfl ⟨Bon,sB⟩ rfl (Yld.o (Ah (v:=(.pointer (some ⟨k9,0,none⟩))) h80_6)) (Bmk 2 Ajz rfl ⟨Bon,sB⟩ rfl (Yld.o (Ck rfl)) (Bmk 3 zZ6 rfl ⟨Bon,sB⟩ rfl (Yld.o (Cb Bjj rfl rfl ⟨_,Ab Bjm,rfl⟩ (by decide) rfl rfl)) (Bmk 4 zZ7 rfl ⟨Bon,sB⟩ rfl (Atf (v:=ov66_6c0) ⟨_,Bhx,rfl⟩ rfl (List.mem_cons_of_mem _ (List.mem_cons_of_mem _ (List.mem_cons_of_mem _ (List.mem_cons_self ..)))) rfl) (Bmk 5 zZ8 rfl ⟨Bon,sB⟩ rfl (Axz (cs:=[(iV (lo)),(iV (hi))]) (rs:=[]) ⟨_,Big,rfl⟩ ⟨_,Ab Bjg,rfl⟩ h80_16 (List.mem_cons_self ..) rfl rfl) ?_))))))))))
   have r107:Val ρ66 (.agg #[(iV (lo)),(iV (hi))]) (⟨lo,hi⟩:Bnd):=Bnd.shut (x:=(⟨lo,hi⟩:Bnd)) (show I64 (lo) from by constructor <;> omega) (show I64 (hi) from by constructor <;> omega)
   refine Bmk 6 Aob rfl ⟨Bon,sB⟩ rfl (Yld.o (Ah (v:=(.map (some k11))) h80_7)) (Bmk 7 Aka rfl ⟨Bon,sB⟩ rfl (Yld.o (Ah (v:=(iV ((i:Int)))) h80_15)) ?_)
   have hmk108:=Awz ok (p:=((i:Int))) ⟨by omega,by omega⟩
   refine Bmk 8 Akb rfl ⟨Bon,sB⟩ rfl (Ayc Bls Bhv zr3 mu64 rfl rfl (List.mem_cons_of_mem _ (List.mem_cons_of_mem _ (List.mem_cons_self ..))) (Bal ok (by omega))) (Bml 9 Amg rfl ⟨Bon,sB⟩ rfl (Yld.o (Ah (v:=(iV (((b.steps.length:Nat):Int)))) rfl)) ⟨Bon,sB⟩ ?_)
   have r109:Val ρ66 (.agg #[(iV (lo)),(iV (hi)),(iV (((As b ((i:Int)):Nat):Int))),(iV (((b.steps.length:Nat):Int)))]) (⟨(⟨lo,hi⟩:Bnd),((As b ((i:Int)):Nat):Int),((b.steps.length:Nat):Int)⟩:Strm):=Strm.shut (x:=(⟨(⟨lo,hi⟩:Bnd),((As b ((i:Int)):Nat):Int),((b.steps.length:Nat):Int)⟩:Strm)) (show I64 (lo) from by constructor <;> omega) (show I64 (hi) from by constructor <;> omega) (show I64 (((As b ((i:Int)):Nat):Int)) from by constructor <;> omega) (show I64 (((b.steps.length:Nat):Int)) from by constructor <;> omega)
   refine Bml 10 Aqk rfl ⟨Bon,sB⟩ rfl (Yld.o (Dn (ns:=[2,1,1]) (vs:=[(0,(.agg #[(iV (lo)),(iV (hi))])),(1,(iV (((As b ((i:Int)):Nat):Int)))),(2,(iV (((b.steps.length:Nat):Int))))]) (zc:=Aub) (cs:=[(iV (lo)),(iV (hi)),(iV (((As b ((i:Int)):Nat):Int))),(iV (((b.steps.length:Nat):Int)))]) Bjd Ati rfl ⟨⟨_,Ab Bjg,rfl⟩,⟨_,Ab Bhq,rfl⟩,⟨_,Ab Bhq,rfl⟩,trivial⟩ (EvB.map ⟨⟨rfl,rfl⟩,⟨rfl,rfl⟩,⟨rfl,rfl⟩,trivial⟩) ((Be (cs:=[(iV (lo)),(iV (hi))]) rfl rfl (Nat.le_of_ble_eq_true rfl)).trans ((Be (cs:=[(iV (((As b ((i:Int)):Nat):Int)))]) rfl rfl (Nat.le_of_ble_eq_true rfl)).trans ((Be (cs:=[(iV (((b.steps.length:Nat):Int)))]) rfl rfl (Nat.le_of_ble_eq_true rfl)).trans rfl))))) ⟨Bon,sB⟩ (Bmn 11 Anr rfl rfl (Bi (α:=Strm) (xs:=[(⟨(⟨lo,hi⟩:Bnd),((As b ((i:Int)):Nat):Int),((b.steps.length:Nat):Int)⟩:Strm)]) (vs:=[(.agg #[(iV (lo)),(iV (hi)),(iV (((As b ((i:Int)):Nat):Int))),(iV (((b.steps.length:Nat):Int)))])]) Bhx Asz Ati rfl (by decide) (Dk (os:=[.tmp 108]) ⟨rfl,trivial⟩) ⟨r109,trivial⟩ rfl (by decide) fun k110 cs110 R110=>⟨⟨Bon,sB⟩,?_⟩))
   have G110:Grow ρ66 286 (.slice (some ⟨k110,0,none⟩) 1 1) ([(⟨(⟨lo,hi⟩:Bnd),((As b ((i:Int)):Nat):Int),((b.steps.length:Nat):Int)⟩:Strm)]:List Strm) [(k110,oC cs110.toArray 286)]:=Bs R110 rfl (by decide)
   refine Ayu G110 sB fun ρ112 l112 r112=>?_
   replace OG66_6c0:=Bom l112 OG66_6c0
   refine Axn Asw (Bmn 12 zZ0 rfl rfl (Gc (σ:=((k74,oC #[(iV (lo)),(iV (hi))] 282) :: ((k12,Res.obj (Obj.map me18_1 mc18_1)) :: ((k11,Res.obj (Obj.map me18_0 mc18_0)) :: ((k9,oC #[ov66_6c0,(iV (((b.steps.length:Nat):Int))),(iV ((((b.steps.length + 1):Nat):Int)))] 279) :: σ))))) (gr:=og66_6c0) (xs:=Atu b i) (ys:=([(⟨(⟨lo,hi⟩:Bnd),((As b ((i:Int)):Nat):Int),((b.steps.length:Nat):Int)⟩:Strm)]:List Strm)) Bhx Bhx (Ab Bld) rfl (Nat.le_of_ble_eq_true rfl) rfl rfl rfl rfl OG66_6c0 r112 (by simp only [List.length_append,List.length_cons,List.length_nil] at *; omega) fun v111 gr111 G111=>⟨⟨l112,sB⟩,?_⟩))
   refine Bml 13 zZ1 rfl ⟨l112,sB⟩ rfl (Yld.o (Ck rfl)) ⟨Bon,sB⟩ (Bml 14 zZ2 rfl ⟨l112,sB⟩ rfl (Yld.o (Cb Bjj rfl rfl ⟨_,Ab Bjm,rfl⟩ (by decide) rfl rfl)) ⟨Bon,sB⟩ (Axn ((p_a ((p_c ((p_c Arz).trans Arz)).trans Arz)).trans Asd) (Bmm 15 zZ3 rfl rfl (Cz (j:=0) (v:=v111) ⟨_,Ab Bjm,rfl⟩ rfl rfl (Grow.single G111) rfl (Nat.le_of_ble_eq_true rfl) ?_))))
   refine Bat rfl (k70 _ _ _ _ ?_)
   refine Ag rfl rfl (l_v (Br h80_68 rfl (z:=(((i + 1):Nat):Int)) wrE) (Bmb (iV ((((i + 1):Nat):Int))) (Bj (Bol ((p_c Asd).trans Arz)) (Bj Boj (Bj (Bol ((p_c ((p_a Arz).trans Asd)).trans Arz)) (Bj (Bol ((p_c ((p_c Asd).trans Arz)).trans Arz)) (Bj (Bol ((p_c ((p_c Asw).trans Asw)).trans Asw)) (Ac ?_))))))))
   refine ⟨_,?_,((i + 1)),v111,gr111,rfl,rfl,(Boo l66 l112),rfl,h80_1,h80_2,h80_5,h80_6,h80_7,h80_8,h80_67,rfl,(by omega),(Fy ((Bgo (by rw [show b.scales.length = k by omega]; exact p80_1) q106)) G111),trivial⟩
   omega
  have b113:=not_eq_f b105
  have q113:=of_decide_eq_true b113
  refine Al (k103 _ _ _ _ ?_)
  refine Awj (((k74,oC #[(iV (lo)),(iV (hi))] 282) :: ((k12,Res.obj (Obj.map me18_1 mc18_1)) :: ((k11,Res.obj (Obj.map me18_0 mc18_0)) :: ((k9,oC #[ov66_6c0,(iV (((b.steps.length:Nat):Int))),(iV ((((b.steps.length + 1):Nat):Int)))] 279) :: []))))) [0,1,2,3,4,5,6,7,8,9,10,11,12,14] (by kernel_rfl) rfl rfl (Bmk 0 zZ9 rfl ⟨Bon,sB⟩ rfl (Yld.o (Ah (v:=(.pointer (some ⟨k9,0,none⟩))) h80_6)) (Bmk 1 Ajy rfl ⟨Bon,sB⟩ rfl (Yld.o (Ah (v:=(.pointer (some ⟨k9,0,none⟩))) h80_6)) (Bmk 2 Ajz rfl ⟨Bon,sB⟩ rfl (Yld.o (Ck rfl)) (Bmk 3 zZ6 rfl ⟨Bon,sB⟩ rfl (Yld.o (Cb Bjj rfl rfl ⟨_,Ab Bjm,rfl⟩ (by decide) rfl rfl)) (Bmk 4 zZ7 rfl ⟨Bon,sB⟩ rfl (Atf (v:=ov66_6c0) ⟨_,Bhx,rfl⟩ rfl (List.mem_cons_of_mem _ (List.mem_cons_of_mem _ (List.mem_cons_of_mem _ (List.mem_cons_self ..)))) rfl) (Bmk 5 zZ8 rfl ⟨Bon,sB⟩ rfl (Axz (cs:=[(iV (lo)),(iV (hi))]) (rs:=[]) ⟨_,Big,rfl⟩ ⟨_,Ab Bjg,rfl⟩ h80_16 (List.mem_cons_self ..) rfl rfl) ?_))))))
  have r114:Val ρ66 (.agg #[(iV (lo)),(iV (hi))]) (⟨lo,hi⟩:Bnd):=Bnd.shut (x:=(⟨lo,hi⟩:Bnd)) (show I64 (lo) from by constructor <;> omega) (show I64 (hi) from by constructor <;> omega)
  refine Bmk 6 Aob rfl ⟨Bon,sB⟩ rfl (Yld.o (Ah (v:=(.map (some k11))) h80_7)) (Bmk 7 Aka rfl ⟨Bon,sB⟩ rfl (Yld.o (Ah (v:=(iV ((i:Int)))) h80_15)) ?_)
  have hmk115:=Awz ok (p:=((i:Int))) ⟨by omega,by omega⟩
  refine Bmk 8 Akb rfl ⟨Bon,sB⟩ rfl (Ayc Bls Bhv zr3 mu64 rfl rfl (List.mem_cons_of_mem _ (List.mem_cons_of_mem _ (List.mem_cons_self ..))) (Bal ok (by omega))) (Bml 9 Amg rfl ⟨Bon,sB⟩ rfl (Yld.o (Ah (v:=(iV ((((if ((i:Int)) ∈ Ash b b.steps.length then Ast b ((i:Int)) else 0):Nat):Int)))) rfl)) ⟨Bon,sB⟩ ?_)
  have r116:Val ρ66 (.agg #[(iV (lo)),(iV (hi)),(iV (((As b ((i:Int)):Nat):Int))),(iV ((((if ((i:Int)) ∈ Ash b b.steps.length then Ast b ((i:Int)) else 0):Nat):Int)))]) (⟨(⟨lo,hi⟩:Bnd),((As b ((i:Int)):Nat):Int),(((if ((i:Int)) ∈ Ash b b.steps.length then Ast b ((i:Int)) else 0):Nat):Int)⟩:Strm):=Strm.shut (x:=(⟨(⟨lo,hi⟩:Bnd),((As b ((i:Int)):Nat):Int),(((if ((i:Int)) ∈ Ash b b.steps.length then Ast b ((i:Int)) else 0):Nat):Int)⟩:Strm)) (show I64 (lo) from by constructor <;> omega) (show I64 (hi) from by constructor <;> omega) (show I64 (((As b ((i:Int)):Nat):Int)) from by constructor <;> omega) (show I64 ((((if ((i:Int)) ∈ Ash b b.steps.length then Ast b ((i:Int)) else 0):Nat):Int)) from by constructor <;> omega)
  refine Bml 10 Aqk rfl ⟨Bon,sB⟩ rfl (Yld.o (Dn (ns:=[2,1,1]) (vs:=[(0,(.agg #[(iV (lo)),(iV (hi))])),(1,(iV (((As b ((i:Int)):Nat):Int)))),(2,(iV ((((if ((i:Int)) ∈ Ash b b.steps.length then Ast b ((i:Int)) else 0):Nat):Int))))]) (zc:=Aub) (cs:=[(iV (lo)),(iV (hi)),(iV (((As b ((i:Int)):Nat):Int))),(iV ((((if ((i:Int)) ∈ Ash b b.steps.length then Ast b ((i:Int)) else 0):Nat):Int)))]) Bjd Ati rfl ⟨⟨_,Ab Bjg,rfl⟩,⟨_,Ab Bhq,rfl⟩,⟨_,Ab Bhq,rfl⟩,trivial⟩ (EvB.map ⟨⟨rfl,rfl⟩,⟨rfl,rfl⟩,⟨rfl,rfl⟩,trivial⟩) ((Be (cs:=[(iV (lo)),(iV (hi))]) rfl rfl (Nat.le_of_ble_eq_true rfl)).trans ((Be (cs:=[(iV (((As b ((i:Int)):Nat):Int)))]) rfl rfl (Nat.le_of_ble_eq_true rfl)).trans ((Be (cs:=[(iV ((((if ((i:Int)) ∈ Ash b b.steps.length then Ast b ((i:Int)) else 0):Nat):Int)))]) rfl rfl (Nat.le_of_ble_eq_true rfl)).trans rfl))))) ⟨Bon,sB⟩ (Bmn 11 Anr rfl rfl (Bi (α:=Strm) (xs:=[(⟨(⟨lo,hi⟩:Bnd),((As b ((i:Int)):Nat):Int),(((if ((i:Int)) ∈ Ash b b.steps.length then Ast b ((i:Int)) else 0):Nat):Int)⟩:Strm)]) (vs:=[(.agg #[(iV (lo)),(iV (hi)),(iV (((As b ((i:Int)):Nat):Int))),(iV ((((if ((i:Int)) ∈ Ash b b.steps.length then Ast b ((i:Int)) else 0):Nat):Int)))])]) Bhx Asz Ati rfl (by decide) (Dk (os:=[.tmp 108]) ⟨rfl,trivial⟩) ⟨r116,trivial⟩ rfl (by decide) fun k117 cs117 R117=>⟨⟨Bon,sB⟩,?_⟩))
  have G117:Grow ρ66 286 (.slice (some ⟨k117,0,none⟩) 1 1) ([(⟨(⟨lo,hi⟩:Bnd),((As b ((i:Int)):Nat):Int),(((if ((i:Int)) ∈ Ash b b.steps.length then Ast b ((i:Int)) else 0):Nat):Int)⟩:Strm)]:List Strm) [(k117,oC cs117.toArray 286)]:=Bs R117 rfl (by decide)
  refine Ayu G117 sB fun ρ119 l119 r119=>?_
  replace OG66_6c0:=Bom l119 OG66_6c0
  refine Axn Asw (Bmn 12 zZ0 rfl rfl (Gc (σ:=((k74,oC #[(iV (lo)),(iV (hi))] 282) :: ((k12,Res.obj (Obj.map me18_1 mc18_1)) :: ((k11,Res.obj (Obj.map me18_0 mc18_0)) :: ((k9,oC #[ov66_6c0,(iV (((b.steps.length:Nat):Int))),(iV ((((b.steps.length + 1):Nat):Int)))] 279) :: σ))))) (gr:=og66_6c0) (xs:=Atu b i) (ys:=([(⟨(⟨lo,hi⟩:Bnd),((As b ((i:Int)):Nat):Int),(((if ((i:Int)) ∈ Ash b b.steps.length then Ast b ((i:Int)) else 0):Nat):Int)⟩:Strm)]:List Strm)) Bhx Bhx (Ab Bld) rfl (Nat.le_of_ble_eq_true rfl) rfl rfl rfl rfl OG66_6c0 r119 (by simp only [List.length_append,List.length_cons,List.length_nil] at *; omega) fun v118 gr118 G118=>⟨⟨l119,sB⟩,?_⟩))
  refine Bml 13 zZ1 rfl ⟨l119,sB⟩ rfl (Yld.o (Ck rfl)) ⟨Bon,sB⟩ (Bml 14 zZ2 rfl ⟨l119,sB⟩ rfl (Yld.o (Cb Bjj rfl rfl ⟨_,Ab Bjm,rfl⟩ (by decide) rfl rfl)) ⟨Bon,sB⟩ (Axn ((p_a ((p_c ((p_c Arz).trans Arz)).trans Arz)).trans Asd) (Bmm 15 zZ3 rfl rfl (Cz (j:=0) (v:=v118) ⟨_,Ab Bjm,rfl⟩ rfl rfl (Grow.single G118) rfl (Nat.le_of_ble_eq_true rfl) ?_))))
  refine Bat rfl (k70 _ _ _ _ ?_)
  refine Ag rfl rfl (l_v (Br h80_68 rfl (z:=(((i + 1):Nat):Int)) wrE) (Bmb (iV ((((i + 1):Nat):Int))) (Bj (Bol ((p_c Asd).trans Arz)) (Bj Boj (Bj (Bol ((p_c ((p_a Arz).trans Asd)).trans Arz)) (Bj (Bol ((p_c ((p_c Asd).trans Arz)).trans Arz)) (Bj (Bol ((p_c ((p_c Asw).trans Asw)).trans Asw)) (Ac ?_))))))))
  refine ⟨_,?_,((i + 1)),v118,gr118,rfl,rfl,(Boo l66 l119),rfl,h80_1,h80_2,h80_5,h80_6,h80_7,h80_8,h80_67,rfl,(by omega),(Fy ((Beu (by rw [show b.scales.length = k by omega]; exact p80_1) q113)) G118),trivial⟩
  omega
 have q69:=of_decide_eq_false b69
 refine Bx (k59 _ _ _ _ ?_)
 refine Asb rfl rfl fun K120 K121 k120 k121=>Arw (Ay TBook.f_steps Bhr rfl rfl Mx (by decide) h66_2 r2) fun v122 r122=>Arw (Ax Mx rfl r122) fun v123 r123=>?_
 have g124:=Bop r123
 refine l_v (Ci (el:=176) Bih rfl r123) (Bmb (iV (0)) (l_k k121 (Ao (Cc (fun mm ee dd ρ' σ'=>∃ (s:Nat) (ov125_6c0:Value) (og125_6c0:Own),(b.steps.length - s) = mm∧[] = dd∧Ro.le ρ66 ρ'∧(og125_6c0 ++ ((k12,Res.obj (Obj.map me18_1 mc18_1)) :: ((k11,Res.obj (Obj.map me18_0 mc18_0)) :: ((k9,oC #[ov125_6c0,(iV (((b.steps.length:Nat):Int))),(iV ((((b.steps.length + 1):Nat):Int)))] 279) :: σ)))) = σ'∧ee 1 = (iV ((-1)))∧ee 5 = (iV (((b.steps.length:Nat):Int)))∧ee 6 = (.pointer (some ⟨k9,0,none⟩))∧ee 115 = v123∧ee 116 = (iV (((b.steps.length:Nat):Int)))∧ee 117 = (iV ((s:Int)))∧(s ≤ b.steps.length)∧Grow ρ' 286 ov125_6c0 (Atu b b.piles.length ++ glS b s) og125_6c0∧True) (m:=_) ⟨0,ov66_6c0,og66_6c0,rfl,rfl,Bon,rfl,h66_1,h66_5,h66_6,rfl,rfl,rfl,(Nat.zero_le _),(Fy (by rw [show i = b.piles.length by omega]; simp [glS]) OG66_6c0),trivial⟩ ?_))))
 rintro m125 e125 _ ρ125 _ ⟨s,ov125_6c0,og125_6c0,rfl,rfl,l125,rfl,h125_1,h125_5,h125_6,h125_115,h125_116,h125_117,p125_0,OG125_6c0,_⟩
 replace r123:=Boq l125 r123
 have hpl125:=Axh (b:=b) (n:=b.piles.length)
 have hgl125:=Azn (b:=b) (k:=s)
 refine w_q rfl rfl fun K126 k126=>l_v (Da h125_117 h125_116) (Asa k126 fun K127 k127=>Up (t:=decide ((s:Int) < ((b.steps.length:Nat):Int))) rfl (fun b128=>?_) (fun b128=>?_))
 ·have q128:=of_decide_eq_true b128
  refine Al (k127 _ _ _ _ ?_)
  refine Ai fun K129 k129=>Ao (w_q rfl rfl fun K130 k130=>l_v (Ah (v:=(iV ((s:Int)))) h125_117) ?_)
  obtain ⟨a132,ha132⟩:=Ed (xs:=b.steps) (i:=s) (by omega)
  have hsoa132:=ok.step s a132 ha132; have hhda132:=hsoa132.hand; have hgaa132:=hsoa132.gain; have hloa132:=hsoa132.loss; have hola132:=hsoa132.outLen ok; have hila132:=hsoa132.inLen ok
  refine Arw (Ch s Bih Atb h125_115 r123 (q:=(s:Int)) h125_117 rfl ha132) fun v131 r131=>Arw (Ax Atb rfl r131) fun v133 r133=>Arv (Ct Ayd fun k134=>?_)
  refine Bma (iV ((s:Int))) (Cx rfl (Dv (v:=v133) (a:=a132) (c:=Bab) Atb rfl rfl r133 rfl ?_))
  refine Bb (a:=a132) r133 fun ρ135 l135 r135=>?_
  replace OG125_6c0:=Bom l135 OG125_6c0
  refine Arx rfl rfl k130 fun K136 k136=>l_v (Ah (v:=(iV (((b.steps.length:Nat):Int)))) h125_5) (Bma (iV (((b.steps.length:Nat):Int))) (Ary rfl rfl k136 fun K137 K138 k137 k138=>Arw (Ay TStep.f_hand Bht rfl rfl ty3 (by decide) rfl r135) fun v139 r139=>?_))
  have ⟨g140a,g140b⟩:=At.rng r139
  refine l_v (Bc ty3 rfl r139) (l_v (Ah (v:=(iV ((-1)))) h125_1) (l_v (Ek rfl rfl) (l_k k138 (Cg rfl (beq_eq_false_iff_ne.2 (by omega)) (Al (k137 _ _ _ _ ?_))))))
  refine Bmw (Bmq 0 [o1,o0,o0,o0,o0,o0,o0,o0,o0,o0,o0,o0,o0,o0,o0,o0,o0,o0,o0,o0,o0,o0] rfl (Ah (v:=(.pointer (some ⟨k9,0,none⟩))) h125_6) (Bmq 1 [o1,o1,o0,o0,o0,o0,o0,o0,o0,o0,o0,o0,o0,o0,o0,o0,o0,o0,o0,o0,o0,o0] rfl (Ah (v:=(.pointer (some ⟨k9,0,none⟩))) h125_6) (Bmq 2 [o1,o1,o1,o0,o0,o0,o0,o0,o0,o0,o0,o0,o0,o0,o0,o0,o0,o0,o0,o0,o0,o0] rfl (Ck rfl) (Bmq 3 [o1,o1,o1,o1,o0,o0,o0,o0,o0,o0,o0,o0,o0,o0,o0,o0,o0,o0,o0,o0,o0,o0] rfl (Cb Bjj rfl rfl ⟨_,Ab Bjm,rfl⟩ (by decide) rfl rfl) (Bms 5 [o1,o1,o1,o1,o0,o1,o0,o0,o0,o0,o0,o0,o0,o0,o0,o0,o0,o0,o0,o0,o0,o0] rfl (Ay TStep.f_gain Bht rfl rfl ty65 (by decide) rfl r135) fun v141 r141=>Bms 6 [o1,o1,o1,o1,o0,o1,o1,o0,o0,o0,o0,o0,o0,o0,o0,o0,o0,o0,o0,o0,o0,o0] rfl (Ax ty65 rfl r141) fun v142 r142=>Bmq 8 [o1,o1,o1,o1,o0,o1,o1,o0,o1,o0,o0,o0,o0,o0,o0,o0,o0,o0,o0,o0,o0,o0] rfl (Ah (v:=(iV (((b.steps.length:Nat):Int)))) h125_5) (Bmq 9 [o1,o1,o1,o1,o0,o1,o1,o0,o1,o1,o0,o0,o0,o0,o0,o0,o0,o0,o0,o0,o0,o0] rfl (Ah (v:=(iV ((s:Int)))) rfl) (Bms 11 [o1,o1,o1,o1,o0,o1,o1,o0,o1,o1,o0,o1,o0,o0,o0,o0,o0,o0,o0,o0,o0,o0] rfl (Ay TStep.f_loss Bht rfl rfl ty65 (by decide) rfl r135) fun v143 r143=>Bms 12 [o1,o1,o1,o1,o0,o1,o1,o0,o1,o1,o0,o1,o1,o0,o0,o0,o0,o0,o0,o0,o0,o0] rfl (Ax ty65 rfl r143) fun v144 r144=>Bmq 14 [o1,o1,o1,o1,o0,o1,o1,o0,o1,o1,o0,o1,o1,o0,o1,o0,o0,o0,o0,o0,o0,o0] rfl (Ah (v:=(iV ((s:Int)))) rfl) (Bmq 15 [o1,o1,o1,o1,o0,o1,o1,o0,o1,o1,o0,o1,o1,o0,o1,o1,o0,o0,o0,o0,o0,o0] rfl (Ah (v:=(iV (((b.steps.length:Nat):Int)))) rfl) (Acq (i:=4) (j:=7) [o1,o1,o1,o1,o1,o1,o1,o0,o1,o1,o0,o1,o1,o0,o1,o1,o0,o0,o0,o0,o0,o0] [o1,o1,o1,o1,o0,o1,o1,o1,o1,o1,o0,o1,o1,o0,o1,o1,o0,o0,o0,o0,o0,o0] rfl rfl (by kernel_rfl) rfl rfl rfl rfl ?_ ?_)))))))))
  ·refine Gu (v:=ov125_6c0) ⟨_,Bhx,rfl⟩ rfl (List.mem_append_right _ (List.mem_cons_of_mem _ (List.mem_cons_of_mem _ (List.mem_cons_self ..)))) rfl ⟨Bon,?_⟩
   refine Bmt 7 [o1,o1,o1,o1,o1,o1,o1,o1,o1,o1,o0,o1,o1,o0,o1,o1,o0,o0,o0,o0,o0,o0] rfl (Cm (vs:=[v142]) (Atj r142) Blv rfl rfl ⟨rfl,trivial⟩ fun v145 ρ145 σ145 hc145=>?_)
   obtain ⟨l145,s145,r145⟩:=hc145
   replace s145:=s145.symm; subst s145
   replace OG125_6c0:=Bom l145 OG125_6c0
   replace r144:=Boq l145 r144
   refine ⟨l145,?_⟩
   obtain ⟨e146_,⟨i146_1a,i146_1b⟩,⟨i146_2a,i146_2b⟩⟩:=Bnd.open_ r145
   have e146_c:v145.cells = [(iV (a132.gain.low)),(iV (a132.gain.high))].toArray:=by rw [e146_]; rfl
   have r147:Val ρ145 (.agg #[(iV (a132.gain.low)),(iV (a132.gain.high)),(iV (((b.steps.length:Nat):Int))),(iV ((s:Int)))]) (⟨(⟨a132.gain.low,a132.gain.high⟩:Bnd),((b.steps.length:Nat):Int),(s:Int)⟩:Strm):=Strm.shut (x:=(⟨(⟨a132.gain.low,a132.gain.high⟩:Bnd),((b.steps.length:Nat):Int),(s:Int)⟩:Strm)) (show I64 (a132.gain.low) from by constructor <;> omega) (show I64 (a132.gain.high) from by constructor <;> omega) (show I64 (((b.steps.length:Nat):Int)) from by constructor <;> omega) (show I64 ((s:Int)) from by constructor <;> omega)
   refine Pm (by kernel_rfl) l145 Bon (Bmq 10 Bbh rfl (Dn (ns:=[2,1,1]) (vs:=[(0,v145),(1,(iV (((b.steps.length:Nat):Int)))),(2,(iV ((s:Int))))]) (zc:=Aub) (cs:=[(iV (a132.gain.low)),(iV (a132.gain.high)),(iV (((b.steps.length:Nat):Int))),(iV ((s:Int)))]) Bjd Ati rfl ⟨⟨_,Ab Bjg,rfl⟩,⟨_,Ab Bhq,rfl⟩,⟨_,Ab Bhq,rfl⟩,trivial⟩ (EvB.map ⟨⟨rfl,rfl⟩,⟨rfl,rfl⟩,⟨rfl,rfl⟩,trivial⟩) ((Be (cs:=[(iV (a132.gain.low)),(iV (a132.gain.high))]) e146_c rfl (Nat.le_of_ble_eq_true rfl)).trans ((Be (cs:=[(iV (((b.steps.length:Nat):Int)))]) rfl rfl (Nat.le_of_ble_eq_true rfl)).trans ((Be (cs:=[(iV ((s:Int)))]) rfl rfl (Nat.le_of_ble_eq_true rfl)).trans rfl)))) (Bmt 13 Bbi rfl (Cm (vs:=[v144]) (Atj r144) Blv rfl rfl ⟨rfl,trivial⟩ fun v148 ρ148 σ148 hc148=>?_)))
   obtain ⟨l148,s148,r148⟩:=hc148
   replace s148:=s148.symm; subst s148
   replace OG125_6c0:=Bom l148 OG125_6c0
   replace r147:=Boq l148 r147
   refine ⟨l148,?_⟩
   obtain ⟨e149_,⟨i149_1a,i149_1b⟩,⟨i149_2a,i149_2b⟩⟩:=Bnd.open_ r148
   have e149_c:v148.cells = [(iV (a132.loss.low)),(iV (a132.loss.high))].toArray:=by rw [e149_]; rfl
   have r150:Val ρ148 (.agg #[(iV (a132.loss.low)),(iV (a132.loss.high)),(iV ((s:Int))),(iV (((b.steps.length:Nat):Int)))]) (⟨(⟨a132.loss.low,a132.loss.high⟩:Bnd),(s:Int),((b.steps.length:Nat):Int)⟩:Strm):=Strm.shut (x:=(⟨(⟨a132.loss.low,a132.loss.high⟩:Bnd),(s:Int),((b.steps.length:Nat):Int)⟩:Strm)) (show I64 (a132.loss.low) from by constructor <;> omega) (show I64 (a132.loss.high) from by constructor <;> omega) (show I64 ((s:Int)) from by constructor <;> omega) (show I64 (((b.steps.length:Nat):Int)) from by constructor <;> omega)
   refine Bmd 16 Aqt rfl l148 rfl (Dn (ns:=[2,1,1]) (vs:=[(0,v148),(1,(iV ((s:Int)))),(2,(iV (((b.steps.length:Nat):Int))))]) (zc:=Aub) (cs:=[(iV (a132.loss.low)),(iV (a132.loss.high)),(iV ((s:Int))),(iV (((b.steps.length:Nat):Int)))]) Bjd Ati rfl ⟨⟨_,Ab Bjg,rfl⟩,⟨_,Ab Bhq,rfl⟩,⟨_,Ab Bhq,rfl⟩,trivial⟩ (EvB.map ⟨⟨rfl,rfl⟩,⟨rfl,rfl⟩,⟨rfl,rfl⟩,trivial⟩) ((Be (cs:=[(iV (a132.loss.low)),(iV (a132.loss.high))]) e149_c rfl (Nat.le_of_ble_eq_true rfl)).trans ((Be (cs:=[(iV ((s:Int)))]) rfl rfl (Nat.le_of_ble_eq_true rfl)).trans ((Be (cs:=[(iV (((b.steps.length:Nat):Int)))]) rfl rfl (Nat.le_of_ble_eq_true rfl)).trans rfl)))) (Bmt 17 Aoh rfl (Bi (α:=Strm) (xs:=[(⟨(⟨a132.gain.low,a132.gain.high⟩:Bnd),((b.steps.length:Nat):Int),(s:Int)⟩:Strm),(⟨(⟨a132.loss.low,a132.loss.high⟩:Bnd),(s:Int),((b.steps.length:Nat):Int)⟩:Strm)]) (vs:=[(.agg #[(iV (a132.gain.low)),(iV (a132.gain.high)),(iV (((b.steps.length:Nat):Int))),(iV ((s:Int)))]),(.agg #[(iV (a132.loss.low)),(iV (a132.loss.high)),(iV ((s:Int))),(iV (((b.steps.length:Nat):Int)))])]) Bhx Asz Ati rfl (by decide) (Dk (os:=[.tmp 139,.tmp 145]) ⟨rfl,rfl,trivial⟩) ⟨r147,r150,trivial⟩ rfl (by decide) fun k151 cs151 R151=>⟨l148,?_⟩))
   have G151:Grow ρ148 286 (.slice (some ⟨k151,0,none⟩) 2 2) ([(⟨(⟨a132.gain.low,a132.gain.high⟩:Bnd),((b.steps.length:Nat):Int),(s:Int)⟩:Strm),(⟨(⟨a132.loss.low,a132.loss.high⟩:Bnd),(s:Int),((b.steps.length:Nat):Int)⟩:Strm)]:List Strm) [(k151,oC cs151.toArray 286)]:=Bs R151 rfl (by decide)
   refine Lr G151 fun ρ153 l153 r153=>?_
   replace OG125_6c0:=Bom l153 OG125_6c0
   refine Bmt 18 Aoi rfl (Gc (σ:=((k12,Res.obj (Obj.map me18_1 mc18_1)) :: ((k11,Res.obj (Obj.map me18_0 mc18_0)) :: ((k9,oC #[ov125_6c0,(iV (((b.steps.length:Nat):Int))),(iV ((((b.steps.length + 1):Nat):Int)))] 279) :: σ)))) (gr:=og125_6c0) (xs:=Atu b b.piles.length ++ glS b s) (ys:=([(⟨(⟨a132.gain.low,a132.gain.high⟩:Bnd),((b.steps.length:Nat):Int),(s:Int)⟩:Strm),(⟨(⟨a132.loss.low,a132.loss.high⟩:Bnd),(s:Int),((b.steps.length:Nat):Int)⟩:Strm)]:List Strm)) Bhx Bhx (Ab Bld) rfl (Nat.le_of_ble_eq_true rfl) rfl rfl rfl rfl OG125_6c0 r153 (by simp only [List.length_append,List.length_cons,List.length_nil] at *; omega) fun v152 gr152 G152=>⟨(Boo l148 l153),?_⟩)
   refine Bmd 19 Aoj rfl (Boo l148 l153) rfl (Ck rfl) (Bmd 20 Aok rfl (Boo l148 l153) rfl (Cb Bjj rfl rfl ⟨_,Ab Bjm,rfl⟩ (by decide) rfl rfl) (Ej (Bol ((p_a ((p_c Arz).trans Arz)).trans Asd)) id (Bmv 21 Aol rfl (Cz (j:=0) (v:=v152) ⟨_,Ab Bjm,rfl⟩ rfl rfl (Grow.single G152) rfl (Nat.le_of_ble_eq_true rfl) ⟨(Boo l148 l153),?_⟩))))
   refine Ec rfl (k129 _ _ _ _ ?_)
   refine Ag rfl rfl (l_v (Br h125_117 rfl (z:=(((s + 1):Nat):Int)) wrE) (Bmb (iV ((((s + 1):Nat):Int))) (Bj (Bol ((p_c ((p_a Arz).trans Asd)).trans Arz)) (Bj (Bol ((p_c ((p_c Asd).trans Arz)).trans Arz)) (Bj (Bol ((p_c ((p_c Asw).trans Asw)).trans Asw)) (Ac ?_))))))
   refine ⟨_,?_,((s + 1)),v152,gr152,rfl,rfl,(Boo (Boo (Boo (Boo l125 l135) l145) l148) l153),rfl,h125_1,h125_5,h125_6,h125_115,h125_116,rfl,(by omega),(Fy (Azo ha132) G152),trivial⟩
   omega
  ·refine Cm (vs:=[v142]) (Atj r142) Blv rfl rfl ⟨rfl,trivial⟩ fun v154 ρ154 σ154 hc154=>?_
   obtain ⟨l154,s154,r154⟩:=hc154
   replace s154:=s154.symm; subst s154
   replace OG125_6c0:=Bom l154 OG125_6c0
   replace r144:=Boq l154 r144
   refine ⟨l154,?_⟩
   obtain ⟨e155_,⟨i155_1a,i155_1b⟩,⟨i155_2a,i155_2b⟩⟩:=Bnd.open_ r154
   have e155_c:v154.cells = [(iV (a132.gain.low)),(iV (a132.gain.high))].toArray:=by rw [e155_]; rfl
   have r156:Val ρ154 (.agg #[(iV (a132.gain.low)),(iV (a132.gain.high)),(iV (((b.steps.length:Nat):Int))),(iV ((s:Int)))]) (⟨(⟨a132.gain.low,a132.gain.high⟩:Bnd),((b.steps.length:Nat):Int),(s:Int)⟩:Strm):=Strm.shut (x:=(⟨(⟨a132.gain.low,a132.gain.high⟩:Bnd),((b.steps.length:Nat):Int),(s:Int)⟩:Strm)) (show I64 (a132.gain.low) from by constructor <;> omega) (show I64 (a132.gain.high) from by constructor <;> omega) (show I64 (((b.steps.length:Nat):Int)) from by constructor <;> omega) (show I64 ((s:Int)) from by constructor <;> omega)
   refine Pm (by kernel_rfl) l154 Bon (Bmq 10 [o1,o1,o1,o1,o0,o1,o1,o1,o1,o1,o1,o1,o1,o0,o1,o1,o0,o0,o0,o0,o0,o0] rfl (Dn (ns:=[2,1,1]) (vs:=[(0,v154),(1,(iV (((b.steps.length:Nat):Int)))),(2,(iV ((s:Int))))]) (zc:=Aub) (cs:=[(iV (a132.gain.low)),(iV (a132.gain.high)),(iV (((b.steps.length:Nat):Int))),(iV ((s:Int)))]) Bjd Ati rfl ⟨⟨_,Ab Bjg,rfl⟩,⟨_,Ab Bhq,rfl⟩,⟨_,Ab Bhq,rfl⟩,trivial⟩ (EvB.map ⟨⟨rfl,rfl⟩,⟨rfl,rfl⟩,⟨rfl,rfl⟩,trivial⟩) ((Be (cs:=[(iV (a132.gain.low)),(iV (a132.gain.high))]) e155_c rfl (Nat.le_of_ble_eq_true rfl)).trans ((Be (cs:=[(iV (((b.steps.length:Nat):Int)))]) rfl rfl (Nat.le_of_ble_eq_true rfl)).trans ((Be (cs:=[(iV ((s:Int)))]) rfl rfl (Nat.le_of_ble_eq_true rfl)).trans rfl)))) (Acq (i:=4) (j:=13) Bbh [o1,o1,o1,o1,o0,o1,o1,o1,o1,o1,o1,o1,o1,o1,o1,o1,o0,o0,o0,o0,o0,o0] rfl rfl (by kernel_rfl) rfl rfl rfl rfl ?_ ?_))
   ·refine Gu (v:=ov125_6c0) ⟨_,Bhx,rfl⟩ rfl (List.mem_append_right _ (List.mem_cons_of_mem _ (List.mem_cons_of_mem _ (List.mem_cons_self ..)))) rfl ⟨Bon,?_⟩
    refine Bmt 13 Bbi rfl (Cm (vs:=[v144]) (Atj r144) Blv rfl rfl ⟨rfl,trivial⟩ fun v157 ρ157 σ157 hc157=>?_)
    obtain ⟨l157,s157,r157⟩:=hc157
    replace s157:=s157.symm; subst s157
    replace OG125_6c0:=Bom l157 OG125_6c0
    replace r156:=Boq l157 r156
    refine ⟨l157,?_⟩
    obtain ⟨e158_,⟨i158_1a,i158_1b⟩,⟨i158_2a,i158_2b⟩⟩:=Bnd.open_ r157
    have e158_c:v157.cells = [(iV (a132.loss.low)),(iV (a132.loss.high))].toArray:=by rw [e158_]; rfl
    have r159:Val ρ157 (.agg #[(iV (a132.loss.low)),(iV (a132.loss.high)),(iV ((s:Int))),(iV (((b.steps.length:Nat):Int)))]) (⟨(⟨a132.loss.low,a132.loss.high⟩:Bnd),(s:Int),((b.steps.length:Nat):Int)⟩:Strm):=Strm.shut (x:=(⟨(⟨a132.loss.low,a132.loss.high⟩:Bnd),(s:Int),((b.steps.length:Nat):Int)⟩:Strm)) (show I64 (a132.loss.low) from by constructor <;> omega) (show I64 (a132.loss.high) from by constructor <;> omega) (show I64 ((s:Int)) from by constructor <;> omega) (show I64 (((b.steps.length:Nat):Int)) from by constructor <;> omega)
    refine Bmd 16 Aqt rfl l157 rfl (Dn (ns:=[2,1,1]) (vs:=[(0,v157),(1,(iV ((s:Int)))),(2,(iV (((b.steps.length:Nat):Int))))]) (zc:=Aub) (cs:=[(iV (a132.loss.low)),(iV (a132.loss.high)),(iV ((s:Int))),(iV (((b.steps.length:Nat):Int)))]) Bjd Ati rfl ⟨⟨_,Ab Bjg,rfl⟩,⟨_,Ab Bhq,rfl⟩,⟨_,Ab Bhq,rfl⟩,trivial⟩ (EvB.map ⟨⟨rfl,rfl⟩,⟨rfl,rfl⟩,⟨rfl,rfl⟩,trivial⟩) ((Be (cs:=[(iV (a132.loss.low)),(iV (a132.loss.high))]) e158_c rfl (Nat.le_of_ble_eq_true rfl)).trans ((Be (cs:=[(iV ((s:Int)))]) rfl rfl (Nat.le_of_ble_eq_true rfl)).trans ((Be (cs:=[(iV (((b.steps.length:Nat):Int)))]) rfl rfl (Nat.le_of_ble_eq_true rfl)).trans rfl)))) (Bmt 17 Aoh rfl (Bi (α:=Strm) (xs:=[(⟨(⟨a132.gain.low,a132.gain.high⟩:Bnd),((b.steps.length:Nat):Int),(s:Int)⟩:Strm),(⟨(⟨a132.loss.low,a132.loss.high⟩:Bnd),(s:Int),((b.steps.length:Nat):Int)⟩:Strm)]) (vs:=[(.agg #[(iV (a132.gain.low)),(iV (a132.gain.high)),(iV (((b.steps.length:Nat):Int))),(iV ((s:Int)))]),(.agg #[(iV (a132.loss.low)),(iV (a132.loss.high)),(iV ((s:Int))),(iV (((b.steps.length:Nat):Int)))])]) Bhx Asz Ati rfl (by decide) (Dk (os:=[.tmp 139,.tmp 145]) ⟨rfl,rfl,trivial⟩) ⟨r156,r159,trivial⟩ rfl (by decide) fun k160 cs160 R160=>⟨l157,?_⟩))
    have G160:Grow ρ157 286 (.slice (some ⟨k160,0,none⟩) 2 2) ([(⟨(⟨a132.gain.low,a132.gain.high⟩:Bnd),((b.steps.length:Nat):Int),(s:Int)⟩:Strm),(⟨(⟨a132.loss.low,a132.loss.high⟩:Bnd),(s:Int),((b.steps.length:Nat):Int)⟩:Strm)]:List Strm) [(k160,oC cs160.toArray 286)]:=Bs R160 rfl (by decide)
    refine Lr G160 fun ρ162 l162 r162=>?_
    replace OG125_6c0:=Bom l162 OG125_6c0
    refine Bmt 18 Aoi rfl (Gc (σ:=((k12,Res.obj (Obj.map me18_1 mc18_1)) :: ((k11,Res.obj (Obj.map me18_0 mc18_0)) :: ((k9,oC #[ov125_6c0,(iV (((b.steps.length:Nat):Int))),(iV ((((b.steps.length + 1):Nat):Int)))] 279) :: σ)))) (gr:=og125_6c0) (xs:=Atu b b.piles.length ++ glS b s) (ys:=([(⟨(⟨a132.gain.low,a132.gain.high⟩:Bnd),((b.steps.length:Nat):Int),(s:Int)⟩:Strm),(⟨(⟨a132.loss.low,a132.loss.high⟩:Bnd),(s:Int),((b.steps.length:Nat):Int)⟩:Strm)]:List Strm)) Bhx Bhx (Ab Bld) rfl (Nat.le_of_ble_eq_true rfl) rfl rfl rfl rfl OG125_6c0 r162 (by simp only [List.length_append,List.length_cons,List.length_nil] at *; omega) fun v161 gr161 G161=>⟨(Boo l157 l162),?_⟩)
    refine Bmd 19 Aoj rfl (Boo l157 l162) rfl (Ck rfl) (Bmd 20 Aok rfl (Boo l157 l162) rfl (Cb Bjj rfl rfl ⟨_,Ab Bjm,rfl⟩ (by decide) rfl rfl) (Ej (Bol ((p_a ((p_c Arz).trans Arz)).trans Asd)) id (Bmv 21 Aol rfl (Cz (j:=0) (v:=v161) ⟨_,Ab Bjm,rfl⟩ rfl rfl (Grow.single G161) rfl (Nat.le_of_ble_eq_true rfl) ⟨(Boo l157 l162),?_⟩))))
    refine Ec rfl (k129 _ _ _ _ ?_)
    refine Ag rfl rfl (l_v (Br h125_117 rfl (z:=(((s + 1):Nat):Int)) wrE) (Bmb (iV ((((s + 1):Nat):Int))) (Bj (Bol ((p_c ((p_a Arz).trans Asd)).trans Arz)) (Bj (Bol ((p_c ((p_c Asd).trans Arz)).trans Arz)) (Bj (Bol ((p_c ((p_c Asw).trans Asw)).trans Asw)) (Ac ?_))))))
    refine ⟨_,?_,((s + 1)),v161,gr161,rfl,rfl,(Boo (Boo (Boo (Boo l125 l135) l154) l157) l162),rfl,h125_1,h125_5,h125_6,h125_115,h125_116,rfl,(by omega),(Fy (Azo ha132) G161),trivial⟩
    omega
   ·refine Cm (vs:=[v144]) (Atj r144) Blv rfl rfl ⟨rfl,trivial⟩ fun v163 ρ163 σ163 hc163=>?_
    obtain ⟨l163,s163,r163⟩:=hc163
    replace s163:=s163.symm; subst s163
    replace OG125_6c0:=Bom l163 OG125_6c0
    replace r156:=Boq l163 r156
    refine ⟨l163,?_⟩
    obtain ⟨e164_,⟨i164_1a,i164_1b⟩,⟨i164_2a,i164_2b⟩⟩:=Bnd.open_ r163
    have e164_c:v163.cells = [(iV (a132.loss.low)),(iV (a132.loss.high))].toArray:=by rw [e164_]; rfl
    have r165:Val ρ163 (.agg #[(iV (a132.loss.low)),(iV (a132.loss.high)),(iV ((s:Int))),(iV (((b.steps.length:Nat):Int)))]) (⟨(⟨a132.loss.low,a132.loss.high⟩:Bnd),(s:Int),((b.steps.length:Nat):Int)⟩:Strm):=Strm.shut (x:=(⟨(⟨a132.loss.low,a132.loss.high⟩:Bnd),(s:Int),((b.steps.length:Nat):Int)⟩:Strm)) (show I64 (a132.loss.low) from by constructor <;> omega) (show I64 (a132.loss.high) from by constructor <;> omega) (show I64 ((s:Int)) from by constructor <;> omega) (show I64 (((b.steps.length:Nat):Int)) from by constructor <;> omega)
    refine Pm (by kernel_rfl) l163 Bon (Bmq 16 [o1,o1,o1,o1,o0,o1,o1,o1,o1,o1,o1,o1,o1,o1,o1,o1,o1,o0,o0,o0,o0,o0] rfl (Dn (ns:=[2,1,1]) (vs:=[(0,v163),(1,(iV ((s:Int)))),(2,(iV (((b.steps.length:Nat):Int))))]) (zc:=Aub) (cs:=[(iV (a132.loss.low)),(iV (a132.loss.high)),(iV ((s:Int))),(iV (((b.steps.length:Nat):Int)))]) Bjd Ati rfl ⟨⟨_,Ab Bjg,rfl⟩,⟨_,Ab Bhq,rfl⟩,⟨_,Ab Bhq,rfl⟩,trivial⟩ (EvB.map ⟨⟨rfl,rfl⟩,⟨rfl,rfl⟩,⟨rfl,rfl⟩,trivial⟩) ((Be (cs:=[(iV (a132.loss.low)),(iV (a132.loss.high))]) e164_c rfl (Nat.le_of_ble_eq_true rfl)).trans ((Be (cs:=[(iV ((s:Int)))]) rfl rfl (Nat.le_of_ble_eq_true rfl)).trans ((Be (cs:=[(iV (((b.steps.length:Nat):Int)))]) rfl rfl (Nat.le_of_ble_eq_true rfl)).trans rfl)))) (Acq (i:=4) (j:=17) Aqt [o1,o1,o1,o1,o0,o1,o1,o1,o1,o1,o1,o1,o1,o1,o1,o1,o1,o1,o0,o0,o0,o0] rfl rfl (by kernel_rfl) rfl rfl rfl rfl ?_ ?_))
    ·refine Gu (v:=ov125_6c0) ⟨_,Bhx,rfl⟩ rfl (List.mem_append_right _ (List.mem_cons_of_mem _ (List.mem_cons_of_mem _ (List.mem_cons_self ..)))) rfl ⟨Bon,?_⟩
     refine Bmt 17 Aoh rfl (Bi (α:=Strm) (xs:=[(⟨(⟨a132.gain.low,a132.gain.high⟩:Bnd),((b.steps.length:Nat):Int),(s:Int)⟩:Strm),(⟨(⟨a132.loss.low,a132.loss.high⟩:Bnd),(s:Int),((b.steps.length:Nat):Int)⟩:Strm)]) (vs:=[(.agg #[(iV (a132.gain.low)),(iV (a132.gain.high)),(iV (((b.steps.length:Nat):Int))),(iV ((s:Int)))]),(.agg #[(iV (a132.loss.low)),(iV (a132.loss.high)),(iV ((s:Int))),(iV (((b.steps.length:Nat):Int)))])]) Bhx Asz Ati rfl (by decide) (Dk (os:=[.tmp 139,.tmp 145]) ⟨rfl,rfl,trivial⟩) ⟨r156,r165,trivial⟩ rfl (by decide) fun k166 cs166 R166=>⟨Bon,?_⟩)
     have G166:Grow ρ163 286 (.slice (some ⟨k166,0,none⟩) 2 2) ([(⟨(⟨a132.gain.low,a132.gain.high⟩:Bnd),((b.steps.length:Nat):Int),(s:Int)⟩:Strm),(⟨(⟨a132.loss.low,a132.loss.high⟩:Bnd),(s:Int),((b.steps.length:Nat):Int)⟩:Strm)]:List Strm) [(k166,oC cs166.toArray 286)]:=Bs R166 rfl (by decide)
     refine Lr G166 fun ρ168 l168 r168=>?_
     replace OG125_6c0:=Bom l168 OG125_6c0
     refine Bmt 18 Aoi rfl (Gc (σ:=((k12,Res.obj (Obj.map me18_1 mc18_1)) :: ((k11,Res.obj (Obj.map me18_0 mc18_0)) :: ((k9,oC #[ov125_6c0,(iV (((b.steps.length:Nat):Int))),(iV ((((b.steps.length + 1):Nat):Int)))] 279) :: σ)))) (gr:=og125_6c0) (xs:=Atu b b.piles.length ++ glS b s) (ys:=([(⟨(⟨a132.gain.low,a132.gain.high⟩:Bnd),((b.steps.length:Nat):Int),(s:Int)⟩:Strm),(⟨(⟨a132.loss.low,a132.loss.high⟩:Bnd),(s:Int),((b.steps.length:Nat):Int)⟩:Strm)]:List Strm)) Bhx Bhx (Ab Bld) rfl (Nat.le_of_ble_eq_true rfl) rfl rfl rfl rfl OG125_6c0 r168 (by simp only [List.length_append,List.length_cons,List.length_nil] at *; omega) fun v167 gr167 G167=>⟨l168,?_⟩)
     refine Bmd 19 Aoj rfl l168 rfl (Ck rfl) (Bmd 20 Aok rfl l168 rfl (Cb Bjj rfl rfl ⟨_,Ab Bjm,rfl⟩ (by decide) rfl rfl) (Ej (Bol ((p_a ((p_c Arz).trans Arz)).trans Asd)) id (Bmv 21 Aol rfl (Cz (j:=0) (v:=v167) ⟨_,Ab Bjm,rfl⟩ rfl rfl (Grow.single G167) rfl (Nat.le_of_ble_eq_true rfl) ⟨l168,?_⟩))))
     refine Ec rfl (k129 _ _ _ _ ?_)
     refine Ag rfl rfl (l_v (Br h125_117 rfl (z:=(((s + 1):Nat):Int)) wrE) (Bmb (iV ((((s + 1):Nat):Int))) (Bj (Bol ((p_c ((p_a Arz).trans Asd)).trans Arz)) (Bj (Bol ((p_c ((p_c Asd).trans Arz)).trans Arz)) (Bj (Bol ((p_c ((p_c Asw).trans Asw)).trans Asw)) (Ac ?_))))))
     refine ⟨_,?_,((s + 1)),v167,gr167,rfl,rfl,(Boo (Boo (Boo (Boo l125 l135) l154) l163) l168),rfl,h125_1,h125_5,h125_6,h125_115,h125_116,rfl,(by omega),(Fy (Azo ha132) G167),trivial⟩
     omega
    ·refine Bi (α:=Strm) (xs:=[(⟨(⟨a132.gain.low,a132.gain.high⟩:Bnd),((b.steps.length:Nat):Int),(s:Int)⟩:Strm),(⟨(⟨a132.loss.low,a132.loss.high⟩:Bnd),(s:Int),((b.steps.length:Nat):Int)⟩:Strm)]) (vs:=[(.agg #[(iV (a132.gain.low)),(iV (a132.gain.high)),(iV (((b.steps.length:Nat):Int))),(iV ((s:Int)))]),(.agg #[(iV (a132.loss.low)),(iV (a132.loss.high)),(iV ((s:Int))),(iV (((b.steps.length:Nat):Int)))])]) Bhx Asz Ati rfl (by decide) (Dk (os:=[.tmp 139,.tmp 145]) ⟨rfl,rfl,trivial⟩) ⟨r156,r165,trivial⟩ rfl (by decide) fun k169 cs169 R169=>⟨Bon,?_⟩
     have G169:Grow ρ163 286 (.slice (some ⟨k169,0,none⟩) 2 2) ([(⟨(⟨a132.gain.low,a132.gain.high⟩:Bnd),((b.steps.length:Nat):Int),(s:Int)⟩:Strm),(⟨(⟨a132.loss.low,a132.loss.high⟩:Bnd),(s:Int),((b.steps.length:Nat):Int)⟩:Strm)]:List Strm) [(k169,oC cs169.toArray 286)]:=Bs R169 rfl (by decide)
     refine Bmt 4 Aoh rfl (Gu (v:=ov125_6c0) ⟨_,Bhx,rfl⟩ rfl (List.mem_cons_of_mem _ (List.mem_append_right _ (List.mem_cons_of_mem _ (List.mem_cons_of_mem _ (List.mem_cons_self ..))))) rfl ⟨Bon,?_⟩)
     refine Lr G169 fun ρ171 l171 r171=>?_
     replace OG125_6c0:=Bom l171 OG125_6c0
     refine Bmt 18 Aoi rfl (Gc (σ:=((k12,Res.obj (Obj.map me18_1 mc18_1)) :: ((k11,Res.obj (Obj.map me18_0 mc18_0)) :: ((k9,oC #[ov125_6c0,(iV (((b.steps.length:Nat):Int))),(iV ((((b.steps.length + 1):Nat):Int)))] 279) :: σ)))) (gr:=og125_6c0) (xs:=Atu b b.piles.length ++ glS b s) (ys:=([(⟨(⟨a132.gain.low,a132.gain.high⟩:Bnd),((b.steps.length:Nat):Int),(s:Int)⟩:Strm),(⟨(⟨a132.loss.low,a132.loss.high⟩:Bnd),(s:Int),((b.steps.length:Nat):Int)⟩:Strm)]:List Strm)) Bhx Bhx (Ab Bld) rfl (Nat.le_of_ble_eq_true rfl) rfl rfl rfl rfl OG125_6c0 r171 (by simp only [List.length_append,List.length_cons,List.length_nil] at *; omega) fun v170 gr170 G170=>⟨l171,?_⟩)
     refine Bmd 19 Aoj rfl l171 rfl (Ck rfl) (Bmd 20 Aok rfl l171 rfl (Cb Bjj rfl rfl ⟨_,Ab Bjm,rfl⟩ (by decide) rfl rfl) (Ej (Bol ((p_a ((p_c Arz).trans Arz)).trans Asd)) id (Bmv 21 Aol rfl (Cz (j:=0) (v:=v170) ⟨_,Ab Bjm,rfl⟩ rfl rfl (Grow.single G170) rfl (Nat.le_of_ble_eq_true rfl) ⟨l171,?_⟩))))
     refine Ec rfl (k129 _ _ _ _ ?_)
     refine Ag rfl rfl (l_v (Br h125_117 rfl (z:=(((s + 1):Nat):Int)) wrE) (Bmb (iV ((((s + 1):Nat):Int))) (Bj (Bol ((p_c ((p_a Arz).trans Asd)).trans Arz)) (Bj (Bol ((p_c ((p_c Asd).trans Arz)).trans Arz)) (Bj (Bol ((p_c ((p_c Asw).trans Asw)).trans Asw)) (Ac ?_))))))
     refine ⟨_,?_,((s + 1)),v170,gr170,rfl,rfl,(Boo (Boo (Boo (Boo l125 l135) l154) l163) l171),rfl,h125_1,h125_5,h125_6,h125_115,h125_116,rfl,(by omega),(Fy (Azo ha132) G170),trivial⟩
     omega
 have q128:=of_decide_eq_false b128
 refine Bx (k120 _ _ _ _ ?_)
 refine Asb rfl rfl fun K172 K173 k172 k173=>l_v (Ah (v:=(iV ((-1)))) h125_1) (l_v (Uy rfl rfl) (l_k k173 (Cg rfl rfl (Al (k172 _ _ _ _ ?_)))))
 refine w_q rfl rfl fun K174 k174=>l_v (Ah (v:=(.pointer (some ⟨k9,0,none⟩))) h125_6) (Bma (.pointer (some ⟨k9,0,none⟩)) (l_k k174 (Aj (Bol Asd) (Aj Boj (Aj (Bol Asd) (Aj Boj (Hc OG125_6c0 fun ρ175 l175 r175=>?_)))))))
 have r176:Val ρ175 (.agg #[ov125_6c0,(iV (((b.steps.length:Nat):Int))),(iV ((((b.steps.length + 1):Nat):Int)))]) (⟨Atu b b.piles.length ++ glS b s,((b.steps.length:Nat):Int),(((b.steps.length + 1):Nat):Int)⟩:Web):=Web.shut (x:=(⟨Atu b b.piles.length ++ glS b s,((b.steps.length:Nat):Int),(((b.steps.length + 1):Nat):Int)⟩:Web)) r175 (show I64 (((b.steps.length:Nat):Int)) from by constructor <;> omega) (show I64 ((((b.steps.length + 1):Nat):Int)) from by constructor <;> omega)
 refine Nt (a:=(⟨Atu b b.piles.length ++ glS b s,((b.steps.length:Nat):Int),(((b.steps.length + 1):Nat):Int)⟩:Web)) r176 fun ρ177 l177 r177=>Aq (hret _ _ _ (⟨(Boo (Boo (Boo (Boo l2 l66) l125) l175) l177),rfl,(.pointer (some ⟨k9,0,none⟩)),rfl,At.cast (by rw [show s = b.steps.length by omega]; rfl) r177⟩))
end
section
open Go
section
variable {C:Ctx} {n:Nat} {e:Env} {ds:List Deferred} {ρ ρ₀:Ro} {σ A:Own} {K:Value→List Deferred→Ro→Own→Prop} {rd:Option Nat} {dd:Option Tmp}
variable {ty:TypeId} {pos:String} {af:Array Edge} {g:Option (Nat × Bool)} {x y:Operand} {v:Value} {t t':TypeId} {op:Op}
theorem Bdg (hS:leO ρ₀ A ρ σ) (hy:Axy C.P ρ₀ A e op ty v) (h:K v ds ρ σ):wpS C.P ρ (execOp (Af e) ⟨dd,op,ty,pos,af,g⟩) σ (NextH C K rd ds ρ) :=
 Eu (by rintro nx σ' ⟨rfl,rfl⟩; exact h) _ _ (hy ρ σ _ _ _ _ hS)
end
def OGrow (ρ:Ro) (E:List OEnt):Prop:=∀ z ∈ E,Grow ρ 3 z.v z.l z.g∧z.l ≠ []
theorem OGrow.mono {ρ ρ':Ro} (hle:Ro.le ρ ρ') {E:List OEnt} (h:OGrow ρ E):OGrow ρ' E:=fun z hz=>⟨(h z hz).1.mono hle,(h z hz).2⟩
end
section
set_option maxHeartbeats 1000000
open Go
variable {mn:Bool} {X:Frame→List Frame→Ro→Own→Cy→Prop} {ρ:Ro} {σ:Own}
theorem Bgw {lo hi:Int} {fa ta set:Nat} {vx:Value} (rx:Val ρ vx (⟨(⟨lo,hi⟩:Bnd),(fa:Int),(ta:Int)⟩:Strm)) (hf:fa ≤ 9) (ht:ta ≤ 9) (hset:set < 512):CallsH (CX mn X) 160 #[vx,(.int .u64 ((set:Int)))] ρ σ (rP ρ σ (iV (Atd set fa ta))):=by
 have hs1:set >>> fa &&& 1 ≤ 1:=Azc
 have hs2:set >>> ta &&& 1 ≤ 1:=Azc
 have hs3:set >>> fa ≤ set:=Nat.shiftRight_le _ _
 have hs4:set >>> ta ≤ set:=Nat.shiftRight_le _ _
 refine Bh (n:=25) (args:=[vx,(.int .u64 ((set:Int)))]) [4] Tryz.func160 rfl rfl rfl rfl fun Q hret hnor=>w_q rfl rfl fun K1 k1=>Arv (Eb (v:=vx) rfl fun k2=>?_)
 refine Bb (a:=(⟨(⟨lo,hi⟩:Bnd),(fa:Int),(ta:Int)⟩:Strm)) rx fun ρ2 l2 r2=>Bma (iV (0)) (Asa k1 fun K3 k3=>Ai fun K4 k4=>Bmw (Bmq 0 Aql rfl (Ah (v:=(.int .u64 ((set:Int)))) rfl) (Bms 1 Aqm rfl (Ay Strm.f_from_ Bjd rfl rfl ty3 (by decide) rfl r2) fun v5 r5=>?_)))
 have ⟨g6a,g6b⟩:=At.rng r5
 refine Bmq 2 Aqn rfl (Bc ty3 rfl r5) (Bmq 3 Aqo rfl (Lc (p:=set) (q:=fa) rfl rfl rfl (by omega)) (Bmq 4 Aqp rfl (Nv (p:=(set >>> fa)) (q:=1) rfl rfl (by omega)) (Bmq 5 Aqq rfl (Ah (v:=(.int .u64 ((set:Int)))) rfl) (Bms 6 Aqr rfl (Ay Strm.f_to_ Bjd rfl rfl ty3 (by decide) rfl r2) fun v7 r7=>?_))))
 have ⟨g8a,g8b⟩:=At.rng r7
 refine Bmq 7 Aom rfl (Bc ty3 rfl r7) (Bmq 8 Aoa rfl (Lc (p:=set) (q:=ta) rfl rfl rfl (by omega)) (Bmq 9 Ans rfl (Nv (p:=(set >>> ta)) (q:=1) rfl rfl (by omega)) (Bmr 10 zZ4 rfl (Cp (v:=(.int .u64 (((((set >>> fa) &&& 1):Nat):Int)))) rfl) (Bmr 11 zZ5 rfl (Cp (v:=(.int .u64 (((((set >>> ta) &&& 1):Nat):Int)))) rfl) (Ec rfl (k4 _ _ _ _ ?_))))))
 refine Ao (w_q rfl rfl fun K9 k9=>Bmb (.int .u64 (((((set >>> fa) &&& 1):Nat):Int))) (Bmb (.int .u64 (((((set >>> ta) &&& 1):Nat):Int))) (l_v (Da rfl rfl) (Bma (.bool (decide (((((set >>> fa) &&& 1):Nat):Int) < ((((set >>> ta) &&& 1):Nat):Int)))) (l_k k9 (Up (t:=decide (((((set >>> fa) &&& 1):Nat):Int) < ((((set >>> ta) &&& 1):Nat):Int))) rfl (fun b10=>?_) (fun b10=>?_)))))))
 ·have q10:=of_decide_eq_true b10
  refine w_q rfl rfl fun K11 k11=>Bma (iV (1)) (l_k k11 (Aj (Bok l2) (Aq (hret _ _ _ ⟨rfl,rfl,eT (iV (1)) ?_⟩))))
  rw [Atd,if_pos (by unfold Att; omega)]
 have q10:=of_decide_eq_false b10
 refine w_q rfl rfl fun K12 k12=>Bmb (.int .u64 (((((set >>> fa) &&& 1):Nat):Int))) (Bmb (.int .u64 (((((set >>> ta) &&& 1):Nat):Int))) (l_v (Gl rfl rfl) (Bma (.bool (decide (((((set >>> fa) &&& 1):Nat):Int) > ((((set >>> ta) &&& 1):Nat):Int)))) (l_k k12 (Up (t:=decide (((((set >>> fa) &&& 1):Nat):Int) > ((((set >>> ta) &&& 1):Nat):Int))) rfl (fun b13=>?_) (fun b13=>?_))))))
 ·have q13:=of_decide_eq_true b13
  refine w_q rfl rfl fun K14 k14=>Bma (iV (2)) (l_k k14 (Aj (Bok l2) (Aq (hret _ _ _ ⟨rfl,rfl,eT (iV (2)) ?_⟩))))
  rw [Atd,if_neg (by unfold Att; omega),if_pos (by unfold Att; omega)]
 have q13:=of_decide_eq_false b13
 refine Al (k3 _ _ _ _ ?_)
 refine w_q rfl rfl fun K15 k15=>Bma (iV (0)) (l_k k15 (Aj (Bok l2) (Aq (hret _ _ _ ⟨rfl,rfl,eT (iV (0)) ?_⟩))))
 rw [Atd,if_neg (by unfold Att; omega),if_neg (by unfold Att; omega)]
theorem Bai {b:TBook} {vw:Value} {set:Nat} (rwb:At ρ vw (Bfb b)) (ok:TBookOk b) (hset:set < 512):CallsH (CX mn X) 159 #[vw,(.int .u64 ((set:Int)))] ρ σ (rP ρ σ (iV (Asc (Asi b) set))):=by
 have hn8:=ok.nsteps
 have hwl:=Auu ok
 have hsh:=Azt ok
 refine Bh (n:=36) (args:=[vw,(.int .u64 ((set:Int)))]) [4] Tryz.func159 rfl rfl rfl rfl fun Q hret hnor=>w_q rfl rfl fun K1 k1=>Bma (iV (0)) (Arx rfl rfl k1 fun K2 k2=>Bma (iV (0)) (Ary rfl rfl k2 fun K3 K4 k3 k4=>Bmb vw (l_v (Hj rfl rwb) (Arw (Ay Web.f_streams Bjj rfl rfl Aur (by decide) rfl rwb) fun v5 r5=>Arw (Ax Aur rfl r5) fun v6 r6=>?_))))
 have g7:=Bop r6
 refine l_v (Ci (el:=286) Bhx rfl r6) (Bmb (iV (0)) (l_k k4 (Ao (Cc (fun mm ee dd ρ' σ'=>∃ (i:Nat) (n:Int),((Asi b).length - i) = mm∧[] = dd∧ρ = ρ'∧σ = σ'∧ee 1 = (.int .u64 ((set:Int)))∧ee 11 = v6∧ee 12 = (iV ((((Asi b).length:Nat):Int)))∧ee 5 = (iV (n))∧ee 13 = (iV ((i:Int)))∧(i ≤ (Asi b).length)∧(n = Asc ((Asi b).take i) set)∧True) (m:=_) ⟨0,0,rfl,rfl,rfl,rfl,rfl,rfl,rfl,rfl,rfl,(Nat.zero_le _),(by rw [List.take_zero]; rfl),trivial⟩ ?_))))
 rintro m8 e8 _ _ _ ⟨i,n,rfl,rfl,rfl,rfl,h8_1,h8_11,h8_12,h8_5,h8_13,p8_0,p8_1,_⟩
 have hbd8:=Bck ok set i
 refine w_q rfl rfl fun K9 k9=>l_v (Da h8_13 h8_12) (Asa k9 fun K10 k10=>Up (t:=decide ((i:Int) < (((Asi b).length:Nat):Int))) rfl (fun b11=>?_) (fun b11=>?_))
 ·have q11:=of_decide_eq_true b11
  refine Al (k10 _ _ _ _ ?_)
  refine Ai fun K12 k12=>Ao (w_q rfl rfl fun K13 k13=>?_)
  obtain ⟨a15,ha15⟩:=Ed (xs:=Asi b) (i:=i) (by omega)
  obtain ⟨lo16,hi16,fa16,ta16,he16,hw16⟩:=Axv ok ha15; subst he16
  refine Arw (Ch i Bhx Asz h8_11 r6 (q:=(i:Int)) h8_13 rfl ha15) fun v14 r14=>Arw (Ax Asz rfl r14) fun v17 r17=>Arv (Ct Ati fun k18=>?_)
  refine Cx rfl (Dv (v:=v17) (a:=(⟨(⟨lo16,hi16⟩:Bnd),(fa16:Int),(ta16:Int)⟩:Strm)) (c:=Aub) Asz rfl rfl r17 rfl ?_)
  refine Bb (a:=(⟨(⟨lo16,hi16⟩:Bnd),(fa16:Int),(ta16:Int)⟩:Strm)) r17 fun ρ19 l19 r19=>Arx rfl rfl k13 fun K20 k20=>Arw (Ax Asz rfl r19) fun v21 r21=>l_v (Ah (v:=(.int .u64 ((set:Int)))) h8_1) (Arv (Bm (Bgw r21 (by omega) (by omega) (by omega)) Tryz.func160 rfl rfl ⟨rfl,rfl,trivial⟩ ?_))
  refine l_k k20 (Ao (w_q rfl rfl fun K22 k22=>l_v (Ek rfl rfl) (Bma (.bool (Atd set fa16 ta16 == 1)) (l_k k22 (Up (t:=Atd set fa16 ta16 == 1) rfl (fun b23=>?_) (fun b23=>?_))))))
  ·have q23:=Jr b23
   refine Ag rfl rfl (l_v (Ah (v:=(iV (n))) h8_5) (Arw (Ay Strm.f_b Bjd rfl rfl Aus (by decide) rfl r19) fun v24 r24=>Arw (Ay Bnd.f_high Big rfl rfl ty3 (by decide) rfl r24) fun v25 r25=>?_))
   have ⟨g26a,g26b⟩:=At.rng r25
   refine l_v (Bc ty3 rfl r25) (l_v (Ou rfl rfl (z:=(n - hi16)) (Bo (by rfl) (by omega) (by omega))) (Bma (iV ((n - hi16))) (l_k k12 (Ag rfl rfl (l_v (Br h8_13 rfl (z:=(((i + 1):Nat):Int)) wrE) (Bmb (iV ((((i + 1):Nat):Int))) (Bj (Bok l19) (Ac ?_))))))))
   refine ⟨_,?_,((i + 1)),((n - hi16)),rfl,rfl,rfl,rfl,h8_1,h8_11,h8_12,rfl,rfl,(by omega),(by rw [Avc ha15,Bhc q23,← p8_1] <;> omega),trivial⟩
   omega
  have q23:=Jq b23
  refine w_q rfl rfl fun K27 k27=>l_v (Ek rfl rfl) (Bma (.bool (Atd set fa16 ta16 == 2)) (l_k k27 (Up (t:=Atd set fa16 ta16 == 2) rfl (fun b28=>?_) (fun b28=>?_))))
  ·have q28:=Jr b28
   refine Ag rfl rfl (l_v (Ah (v:=(iV (n))) h8_5) (Arw (Ay Strm.f_b Bjd rfl rfl Aus (by decide) rfl r19) fun v29 r29=>Arw (Ay Bnd.f_low Big rfl rfl ty3 (by decide) rfl r29) fun v30 r30=>?_))
   have ⟨g31a,g31b⟩:=At.rng r30
   refine l_v (Bc ty3 rfl r30) (l_v (Br rfl rfl (z:=(n + lo16)) (Bo (by rfl) (by omega) (by omega))) (Bma (iV ((n + lo16))) (l_k k12 (Ag rfl rfl (l_v (Br h8_13 rfl (z:=(((i + 1):Nat):Int)) wrE) (Bmb (iV ((((i + 1):Nat):Int))) (Bj (Bok l19) (Ac ?_))))))))
   refine ⟨_,?_,((i + 1)),((n + lo16)),rfl,rfl,rfl,rfl,h8_1,h8_11,h8_12,rfl,rfl,(by omega),(by rw [Avc ha15,Bhd q23 q28,← p8_1] <;> omega),trivial⟩
   omega
  have q28:=Jq b28
  refine Al (k12 _ _ _ _ ?_)
  refine Ag rfl rfl (l_v (Br h8_13 rfl (z:=(((i + 1):Nat):Int)) wrE) (Bmb (iV ((((i + 1):Nat):Int))) (Bj (Bok l19) (Ac ?_))))
  refine ⟨_,?_,((i + 1)),(n),rfl,rfl,rfl,rfl,h8_1,h8_11,h8_12,h8_5,rfl,(by omega),(by rw [Avc ha15,Bhb q23 q28,← p8_1] <;> omega),trivial⟩
  omega
 have q11:=of_decide_eq_false b11
 refine Bx (k3 _ _ _ _ ?_)
 refine w_q rfl rfl fun K32 k32=>l_v (Ah (v:=(iV (n))) h8_5) (Bma (iV (n)) (l_k k32 (Aq (hret _ _ _ ⟨rfl,rfl,eT (iV (n)) ?_⟩))))
 rw [p8_1,show i = (Asi b).length by omega,List.take_length]
theorem Bad {l:List Strm} {vl f:Value} {p:Strm→Bool} (rl:Val ρ vl l) (hf:Su f p):CallsH (CX mn X) 189 #[vl,f] ρ σ (rP ρ σ (iV (Oi l p))):=by
 refine Bh (n:=19) (args:=[vl,f]) [4] Tryz.func189 rfl rfl rfl rfl fun Q hret hnor=>w_q rfl rfl fun K1 k1=>Bma (iV (0)) (Ary rfl rfl k1 fun K2 K3 k2 k3=>Bmb vl ?_)
 have g4:=Bop rl
 refine l_v (Ci (el:=286) Bhx rfl rl) (Bmb (iV (0)) (l_k k3 (Ao (Cc (fun mm ee dd ρ' σ'=>∃ (i:Nat),(l.length - i) = mm∧[] = dd∧ρ = ρ'∧σ = σ'∧ee 0 = vl∧ee 1 = f∧ee 7 = (iV (((l.length:Nat):Int)))∧ee 8 = (iV ((i:Int)))∧(i ≤ l.length)∧(∀ j,j < i→atP l p j = false)∧True) (m:=_) ⟨0,rfl,rfl,rfl,rfl,rfl,rfl,rfl,rfl,(Nat.zero_le _),(fun j h=>absurd h (Nat.not_lt_zero _)),trivial⟩ ?_))))
 rintro m5 e5 _ _ _ ⟨i,rfl,rfl,rfl,rfl,h5_0,h5_1,h5_7,h5_8,p5_0,p5_1,_⟩
 refine w_q rfl rfl fun K6 k6=>l_v (Da h5_8 h5_7) (Asa k6 fun K7 k7=>Up (t:=decide ((i:Int) < ((l.length:Nat):Int))) rfl (fun b8=>?_) (fun b8=>?_))
 ·have q8:=of_decide_eq_true b8
  refine Al (k7 _ _ _ _ ?_)
  refine Ai fun K9 k9=>Ao (w_q rfl rfl fun K10 k10=>l_v (Ah (v:=(iV ((i:Int)))) h5_8) (Bma (iV ((i:Int))) (Arx rfl rfl k10 fun K11 k11=>l_v (Ah (v:=f) h5_1) (l_v (Ah (v:=vl) h5_0) (Bmb (iV ((i:Int))) ?_)))))
  obtain ⟨a13,ha13⟩:=Ed (xs:=l) (i:=i) (by omega)
  refine Arw (Ch i Bhx Asz rfl rl (q:=(i:Int)) rfl rfl ha13) fun v12 r12=>Arw (Ax Asz rfl r12) fun v14 r14=>Arv (Ajp (pr:=p) (a:=a13) (v:=v14) hf rfl rfl r14 ?_)
  refine l_k k11 (Up (t:=(p) a13) rfl (fun b15=>?_) (fun b15=>?_))
  ·refine w_q rfl rfl fun K16 k16=>Bmb (iV ((i:Int))) (Bma (iV ((i:Int))) (l_k k16 (Aq (hret _ _ _ ⟨rfl,rfl,eT (iV ((i:Int))) ?_⟩))))
   have hi:=Fh (n:=l.length) p5_1 (by omega) (show atP l p i = true by simp only [atP,ha13,b8,b15])
   simp only [Oi,hi]
  refine Al (k9 _ _ _ _ ?_)
  refine Ag rfl rfl (l_v (Br h5_8 rfl (z:=(((i + 1):Nat):Int)) wrE) (Bmb (iV ((((i + 1):Nat):Int))) (Ac ?_)))
  refine ⟨_,?_,((i + 1)),rfl,rfl,rfl,rfl,h5_0,h5_1,h5_7,rfl,(by omega),(Eg p5_1 (by simp only [atP,ha13,b8,b15])),trivial⟩
  omega
 have q8:=of_decide_eq_false b8
 refine Bx (k2 _ _ _ _ ?_)
 refine w_q rfl rfl fun K17 k17=>Bma (iV ((-1))) (l_k k17 (Aq (hret _ _ _ ⟨rfl,rfl,eT (iV ((-1))) ?_⟩)))
 have hn:=Ep (n:=l.length) fun j hj=>p5_1 j (by omega)
 simp only [Oi,hn]
theorem Awn {l:List Strm} {vl f:Value} {p:Strm→Bool} (rl:Val ρ vl l) (hf:Su f p):CallsH (CX mn X) 182 #[vl,f] ρ σ (rP ρ σ (.bool (l.any p))):=by
 refine Bh (n:=9) (args:=[vl,f]) [4] Tryz.func182 rfl rfl rfl rfl fun Q hret hnor=>w_q rfl rfl fun K1 k1=>Bma (.bool (false)) (Arx rfl rfl k1 fun K2 k2=>Bmb vl (Bmb f (Arv (Bm (Bad rl hf) Tryz.func189 rfl rfl ⟨rfl,rfl,trivial⟩ ?_))))
 refine l_v (Uy rfl rfl) (Bma (.bool (decide (Oi l p ≥ 0))) (l_k k2 (Aq (hret _ _ _ ⟨rfl,rfl,eT (.bool (decide (Oi l p ≥ 0))) ?_⟩))))
 rw [Yq]
theorem Bby {x:Strm} {vx:Value} (rx:Val ρ vx x):CallsH (CX mn X) 183 #[vx] ρ σ (rP ρ σ (.bool (decide (x.b.low > x.b.high)))):=by
 refine Bh (n:=10) (args:=[vx]) [2] Tryz.func183 rfl rfl rfl rfl fun Q hret hnor=>w_q rfl rfl fun K1 k1=>Arv (Eb (v:=vx) rfl fun k2=>?_)
 refine Bb (a:=x) rx fun ρ2 l2 r2=>Bma (.bool (false)) (Arx rfl rfl k1 fun K3 k3=>Arw (Ay Strm.f_b Bjd rfl rfl Aus (by decide) rfl r2) fun v4 r4=>Arw (Ay Bnd.f_low Big rfl rfl ty3 (by decide) rfl r4) fun v5 r5=>?_)
 have ⟨g6a,g6b⟩:=At.rng r5
 refine l_v (Bc ty3 rfl r5) (Arw (Ay Strm.f_b Bjd rfl rfl Aus (by decide) rfl r2) fun v7 r7=>Arw (Ay Bnd.f_high Big rfl rfl ty3 (by decide) rfl r7) fun v8 r8=>?_)
 have ⟨g9a,g9b⟩:=At.rng r8
 refine l_v (Bc ty3 rfl r8) (l_v (Gl rfl rfl) (Bma (.bool (decide (x.b.low > x.b.high))) (l_k k3 (Aj (Bok l2) (Aq (hret _ _ _ ⟨rfl,rfl,eT (.bool (decide (x.b.low > x.b.high))) ?_⟩))))))
 rfl
theorem Bca {b:TBook} {vw:Value}  (rwb:At ρ vw (Bfb b)):CallsH (CX mn X) 158 #[vw] ρ σ (rP ρ σ (.bool ((Asi b).any (fun x:Strm=>decide (x.b.low > x.b.high))))):=by
 refine Bh (n:=8) (args:=[vw]) [2] Tryz.func158 rfl rfl rfl rfl fun Q hret hnor=>w_q rfl rfl fun K1 k1=>Bma (.bool (false)) (Arx rfl rfl k1 fun K2 k2=>Bmb vw (l_v (Hj rfl rwb) (Arw (Ay Web.f_streams Bjj rfl rfl Aur (by decide) rfl rwb) fun v3 r3=>Arw (Ax Aur rfl r3) fun v4 r4=>Arv (Bm (Awn r4 (⟨183,Tryz.f183,[],rfl,Tryz.func183,rfl,rfl,fun mn X ρ σ v x hv=>Bby hv⟩:Su (.func (.func 183) #[] #[]) (fun x:Strm=>decide (x.b.low > x.b.high)))) Tryz.func182 rfl rfl ⟨rfl,rfl,trivial⟩ ?_))))
 refine Bma (.bool ((Asi b).any (fun x:Strm=>decide (x.b.low > x.b.high)))) (l_k k2 (Aq (hret _ _ _ ⟨rfl,rfl,eT (.bool ((Asi b).any (fun x:Strm=>decide (x.b.low > x.b.high)))) ?_⟩)))
 rfl
theorem Beg {b:TBook} {vw:Value}  (rwb:At ρ vw (Bfb b)) (ok:TBookOk b):CallsH (CX mn X) 125 #[vw] ρ σ (fun w ρ' σ'=>ρ' = ρ∧σ' = σ∧∃ b,w = .bool b):=by
 have hn8:=ok.nsteps
 have hwl:=Auu ok
 have hsh:=Azt ok
 refine Bh (n:=19) (args:=[vw]) [2] Tryz.func125 rfl rfl rfl rfl fun Q hret hnor=>w_q rfl rfl fun K1 k1=>Bma (.bool (false)) (Ary rfl rfl k1 fun K2 K3 k2 k3=>Bmb vw (Arv (Bm (Bca rwb) Tryz.func158 rfl rfl ⟨rfl,trivial⟩ ?_)))
 refine l_k k3 (Up (t:=(Asi b).any (fun x:Strm=>decide (x.b.low > x.b.high))) rfl (fun b4=>?_) (fun b4=>?_))
 ·refine w_q rfl rfl fun K5 k5=>Bma (.bool (false)) (l_k k5 (Aq (hret _ _ _ (⟨rfl,rfl,_,rfl⟩))))
 refine Al (k2 _ _ _ _ ?_)
 refine Asb rfl rfl fun K6 K7 k6 k7=>Bmb vw (l_v (Hj rfl rwb) (Arw (Ay Web.f_nodes Bjj rfl rfl ty3 (by decide) rfl rwb) fun v8 r8=>?_))
 have ⟨g9a,g9b⟩:=At.rng r8
 refine l_v (Bc ty3 rfl r8) (l_v (Md (p:=1) (q:=(b.steps.length + 1)) rfl rfl rfl (by omega) (z:=(((1 <<< (b.steps.length + 1)):Nat):Int)) (Ev (Int.natCast_nonneg _) (by omega))) (Bmb (.int .u64 (0)) (l_k k7 (Ao (Cc (fun mm ee dd ρ' σ'=>∃ (set:Nat),(1 <<< (b.steps.length + 1) - set) = mm∧[] = dd∧ρ = ρ'∧σ = σ'∧ee 0 = vw∧ee 10 = (.int .u64 ((((1 <<< (b.steps.length + 1)):Nat):Int)))∧ee 11 = (.int .u64 ((set:Int)))∧(set ≤ 1 <<< (b.steps.length + 1))∧True) (m:=_) ⟨0,rfl,rfl,rfl,rfl,rfl,rfl,rfl,(Nat.zero_le _),trivial⟩ ?_)))))
 rintro m10 e10 _ _ _ ⟨set,rfl,rfl,rfl,rfl,h10_0,h10_10,h10_11,p10_0,_⟩
 refine w_q rfl rfl fun K11 k11=>l_v (Da h10_11 h10_10) (Asa k11 fun K12 k12=>Up (t:=decide ((set:Int) < (((1 <<< (b.steps.length + 1)):Nat):Int))) rfl (fun b13=>?_) (fun b13=>?_))
 ·have q13:=of_decide_eq_true b13
  refine Al (k12 _ _ _ _ ?_)
  refine Ai fun K14 k14=>Ao (w_q rfl rfl fun K15 k15=>l_v (Ah (v:=(.int .u64 ((set:Int)))) h10_11) (Bma (.int .u64 ((set:Int))) (Arx rfl rfl k15 fun K16 k16=>l_v (Ah (v:=vw) h10_0) (Bmb (.int .u64 ((set:Int))) ?_))))
  have hsb17:=Bck ok set (Asi b).length; rw [List.take_length] at hsb17
  refine Arv (Bm (Bai rwb ok (by omega)) Tryz.func159 rfl rfl ⟨rfl,rfl,trivial⟩ ?_)
  refine l_v (Gl rfl rfl) (l_k k16 (Up (t:=decide (Asc (Asi b) set > 0)) rfl (fun b18=>?_) (fun b18=>?_)))
  ·have q18:=of_decide_eq_true b18
   refine w_q rfl rfl fun K19 k19=>Bma (.bool (false)) (l_k k19 (Aq (hret _ _ _ (⟨rfl,rfl,_,rfl⟩))))
  have q18:=of_decide_eq_false b18
  refine Al (k14 _ _ _ _ ?_)
  refine Ag rfl rfl (l_v (Br h10_11 rfl (z:=(((set + 1):Nat):Int)) ((Ev (by omega) (by omega)).trans (by push_cast; rfl))) (Bmb (.int .u64 ((((set + 1):Nat):Int))) (Ac ?_)))
  refine ⟨_,?_,((set + 1)),rfl,rfl,rfl,rfl,h10_0,h10_10,rfl,(by omega),trivial⟩
  omega
 have q13:=of_decide_eq_false b13
 refine Bx (k6 _ _ _ _ ?_)
 refine w_q rfl rfl fun K20 k20=>Bma (.bool (true)) (l_k k20 (Aq (hret _ _ _ (⟨rfl,rfl,_,rfl⟩))))
set_option maxHeartbeats 1000000 in
theorem Bei {b:TBook} {vw:Value} {m:List Int} {g x:Nat→Int} (rwb:At ρ vw (Bfb b)) (ok:TBookOk b) (ht:Truth b m g x) (hs:Ato b m):CallsH (CX mn X) 126 #[vw] ρ σ (fun w ρ' σ'=>Ro.le ρ ρ'∧σ' = σ∧∃ (v:Value) (o:List Span),w = v∧Val ρ' v o∧Asx (Aut b m g x) o):=by
 have hn8:=ok.nsteps
 have hwl:=Auu ok
 have hsh:=Azt ok
 refine Bh (n:=91) (args:=[vw]) [2] Tryz.func126 rfl rfl rfl rfl fun Q hret hnor=>w_q rfl rfl fun K1 k1=>Bma (nS) (Arx rfl rfl k1 fun K2 k2=>Bma (nS) (Ary rfl rfl k2 fun K3 K4 k3 k4=>Bmb vw (l_v (Hj rfl rwb) (Arw (Ay Web.f_streams Bjj rfl rfl Aur (by decide) rfl rwb) fun v5 r5=>Arw (Ax Aur rfl r5) fun v6 r6=>?_))))
 have g7:=Bop r6
 refine l_v (Ci (el:=286) Bhx rfl r6) (Bmb (iV (0)) (l_k k4 (Ao (Cc (fun mm ee dd ρ' σ'=>∃ (i:Nat) (ov8_3:Value) (og8_3:Own),((Asi b).length - i) = mm∧[] = dd∧Ro.le ρ ρ'∧(og8_3 ++ σ) = σ'∧ee 0 = vw∧ee 13 = v6∧ee 14 = (iV ((((Asi b).length:Nat):Int)))∧ee 3 = ov8_3∧ee 15 = (iV ((i:Int)))∧(i ≤ (Asi b).length)∧Grow ρ' 41 ov8_3 (((Asi b).take i).map Axj) og8_3∧True) (m:=_) ⟨0,(nS),[],rfl,rfl,Bon,rfl,rfl,rfl,rfl,rfl,rfl,(Nat.zero_le _),(Fy (by simp) Hm),trivial⟩ ?_))))
 rintro m8 e8 _ ρ8 _ ⟨i,ov8_3,og8_3,rfl,rfl,l8,rfl,h8_0,h8_13,h8_14,h8_3,h8_15,p8_0,OG8_3,_⟩
 replace rwb:=At.mono l8 rwb
 replace r6:=Boq l8 r6
 refine w_q rfl rfl fun K9 k9=>l_v (Da h8_15 h8_14) (Asa k9 fun K10 k10=>Up (t:=decide ((i:Int) < (((Asi b).length:Nat):Int))) rfl (fun b11=>?_) (fun b11=>?_))
 ·have q11:=of_decide_eq_true b11
  refine Al (k10 _ _ _ _ ?_)
  refine Ai fun K12 k12=>Ao (w_q rfl rfl fun K13 k13=>?_)
  obtain ⟨a15,ha15⟩:=Ed (xs:=Asi b) (i:=i) (by omega)
  obtain ⟨lo16,hi16,fa16,ta16,he16,hw16⟩:=Axv ok ha15; subst he16
  refine Arw (Ch i Bhx Asz h8_13 r6 (q:=(i:Int)) h8_15 rfl ha15) fun v14 r14=>Arw (Ax Asz rfl r14) fun v17 r17=>Arv (Ct Ati fun k18=>?_)
  refine Cx rfl (Dv (v:=v17) (a:=(⟨(⟨lo16,hi16⟩:Bnd),(fa16:Int),(ta16:Int)⟩:Strm)) (c:=Aub) Asz rfl rfl r17 rfl ?_)
  refine Bb (a:=(⟨(⟨lo16,hi16⟩:Bnd),(fa16:Int),(ta16:Int)⟩:Strm)) r17 fun ρ19 l19 r19=>?_
  replace OG8_3:=Bom l19 OG8_3
  refine l_k k13 (Ag rfl rfl (l_v (Ah (v:=ov8_3) h8_3) (Arw (Ay Strm.f_b Bjd rfl rfl Aus (by decide) rfl r19) fun v20 r20=>Arw (Ay Bnd.f_low Big rfl rfl ty3 (by decide) rfl r20) fun v21 r21=>?_)))
  have ⟨g22a,g22b⟩:=At.rng r21
  refine l_v (Bc ty3 rfl r21) (Arw (Ay Strm.f_b Bjd rfl rfl Aus (by decide) rfl r19) fun v23 r23=>Arw (Ay Bnd.f_high Big rfl rfl ty3 (by decide) rfl r23) fun v24 r24=>?_)
  have ⟨g25a,g25b⟩:=At.rng r24
  refine l_v (Bc ty3 rfl r24) ?_
  have r26:Val ρ19 (.agg #[(iV (lo16)),(iV (hi16))]) (⟨lo16,hi16⟩:Span):=Span.shut (x:=(⟨lo16,hi16⟩:Span)) (show I64 (lo16) from by constructor <;> omega) (show I64 (hi16) from by constructor <;> omega)
  refine l_v (Dn (ns:=[1,1]) (vs:=[(0,(iV (lo16))),(1,(iV (hi16)))]) (zc:=Arm) (cs:=[(iV (lo16)),(iV (hi16))]) Bhu Aak rfl ⟨⟨_,Ab Bhq,rfl⟩,⟨_,Ab Bhq,rfl⟩,trivial⟩ (EvB.map ⟨⟨rfl,rfl⟩,⟨rfl,rfl⟩,trivial⟩) ((Be (cs:=[(iV (lo16))]) rfl rfl (Nat.le_of_ble_eq_true rfl)).trans ((Be (cs:=[(iV (hi16))]) rfl rfl (Nat.le_of_ble_eq_true rfl)).trans rfl))) (Arv (Bi (α:=Span) (xs:=[(⟨lo16,hi16⟩:Span)]) (vs:=[(.agg #[(iV (lo16)),(iV (hi16))])]) Bhy ty65 Aak rfl (by decide) (Dk (os:=[.tmp 26]) ⟨rfl,trivial⟩) ⟨r26,trivial⟩ rfl (by decide) fun k27 cs27 R27=>?_))
  have G27:Grow ρ19 41 (.slice (some ⟨k27,0,none⟩) 1 1) ([(⟨lo16,hi16⟩:Span)]:List Span) [(k27,oC cs27.toArray 41)]:=Bs R27 rfl (by decide)
  refine Ca G27 fun ρ29 l29 r29=>?_
  replace OG8_3:=Bom l29 OG8_3
  refine Arv (Gc (σ:=σ) (gr:=og8_3) (xs:=((Asi b).take i).map Axj) (ys:=([(⟨lo16,hi16⟩:Span)]:List Span)) Bhy Bhy (Ab Bii) rfl (Nat.le_of_ble_eq_true rfl) rfl rfl rfl rfl OG8_3 r29 (by simp only [List.length_append,List.length_cons,List.length_nil,List.length_map,List.length_take] at *; omega) fun v28 gr28 G28=>?_)
  refine Bma v28 (l_k k12 (Ag rfl rfl (l_v (Br h8_15 rfl (z:=(((i + 1):Nat):Int)) wrE) (Bmb (iV ((((i + 1):Nat):Int))) (Ac ?_)))))
  refine ⟨_,?_,((i + 1)),v28,gr28,rfl,rfl,(Boo (Boo l8 l19) l29),rfl,h8_0,h8_13,h8_14,rfl,rfl,(by omega),(Fy (Bcd ha15) G28),trivial⟩
  omega
 have q11:=of_decide_eq_false b11
 refine Bx (k3 _ _ _ _ ?_)
 refine Asb rfl rfl fun K30 K31 k30 k31=>l_v (Ah (v:=vw) h8_0) (l_v (Hj rfl rwb) (Arw (Ay Web.f_nodes Bjj rfl rfl ty3 (by decide) rfl rwb) fun v32 r32=>?_))
 have ⟨g33a,g33b⟩:=At.rng r32
 refine l_v (Bc ty3 rfl r32) (l_v (Md (p:=1) (q:=(b.steps.length + 1)) rfl rfl rfl (by omega) (z:=(((1 <<< (b.steps.length + 1)):Nat):Int)) (Ev (Int.natCast_nonneg _) (by omega))) (Bmb (.int .u64 (0)) (l_k k31 (Ao (Cc (fun mm ee dd ρ' σ'=>∃ (set:Nat) (o:List Span) (ov34_3:Value) (og34_3:Own),(1 <<< (b.steps.length + 1) - set) = mm∧[] = dd∧Ro.le ρ8 ρ'∧(og34_3 ++ σ) = σ'∧ee 0 = vw∧ee 34 = (.int .u64 ((((1 <<< (b.steps.length + 1)):Nat):Int)))∧ee 3 = ov34_3∧ee 35 = (.int .u64 ((set:Int)))∧(set ≤ 1 <<< (b.steps.length + 1))∧(Asx (Aut b m g x) o)∧Grow ρ' 41 ov34_3 o og34_3∧True) (m:=_) ⟨0,((Asi b).take i).map Axj,ov8_3,og8_3,rfl,rfl,Bon,rfl,h8_0,rfl,h8_3,rfl,(Nat.zero_le _),(by rw [show i = (Asi b).length by omega]; exact Bbn ok ht hs),OG8_3,trivial⟩ ?_)))))
 rintro m34 e34 _ ρ34 _ ⟨set,o,ov34_3,og34_3,rfl,rfl,l34,rfl,h34_0,h34_34,h34_3,h34_35,p34_0,p34_1,OG34_3,_⟩
 replace rwb:=At.mono l34 rwb
 refine w_q rfl rfl fun K35 k35=>l_v (Da h34_35 h34_34) (Asa k35 fun K36 k36=>Up (t:=decide ((set:Int) < (((1 <<< (b.steps.length + 1)):Nat):Int))) rfl (fun b37=>?_) (fun b37=>?_))
 ·have q37:=of_decide_eq_true b37
  refine Al (k36 _ _ _ _ ?_)
  refine Ai fun K38 k38=>Ao (w_q rfl rfl fun K39 k39=>l_v (Ah (v:=(.int .u64 ((set:Int)))) h34_35) (Bma (.int .u64 ((set:Int))) (Arx rfl rfl k39 fun K40 k40=>l_v (Ah (v:=vw) h34_0) (Bmb (.int .u64 ((set:Int))) ?_))))
  have hsb41:=Bck ok set (Asi b).length; rw [List.take_length] at hsb41
  refine Arv (Bm (Bai rwb ok (by omega)) Tryz.func159 rfl rfl ⟨rfl,rfl,trivial⟩ ?_)
  refine Bma (iV (Asc (Asi b) set)) (Arx rfl rfl k40 fun K42 k42=>l_v (Ah (v:=vw) h34_0) (l_v (Hj rfl rwb) (Arw (Ay Web.f_streams Bjj rfl rfl Aur (by decide) rfl rwb) fun v43 r43=>Arw (Ax Aur rfl r43) fun v44 r44=>?_)))
  have g45:=Bop r44
  refine l_v (Ci (el:=286) Bhx rfl r44) (Bmb (iV (0)) (l_k k42 (Ao (Cc (fun mm ee dd ρ' σ'=>∃ (k:Nat) (oo:List Span) (ov46_3:Value) (og46_3:Own),((Asi b).length - k) = mm∧[] = dd∧Ro.le ρ34 ρ'∧(og46_3 ++ σ) = σ'∧ee 0 = vw∧ee 6 = (.int .u64 ((set:Int)))∧ee 7 = (iV (Asc (Asi b) set))∧ee 34 = (.int .u64 ((((1 <<< (b.steps.length + 1)):Nat):Int)))∧ee 35 = (.int .u64 ((set:Int)))∧ee 44 = v44∧ee 45 = (iV ((((Asi b).length:Nat):Int)))∧ee 3 = ov46_3∧ee 46 = (iV ((k:Int)))∧(k ≤ (Asi b).length)∧(Asx (Aut b m g x) oo)∧Grow ρ' 41 ov46_3 oo og46_3∧True) (m:=_) ⟨0,o,ov34_3,og34_3,rfl,rfl,Bon,rfl,h34_0,rfl,rfl,h34_34,h34_35,rfl,rfl,h34_3,rfl,(Nat.zero_le _),p34_1,OG34_3,trivial⟩ ?_))))
  rintro m46 e46 _ ρ46 _ ⟨k,oo,ov46_3,og46_3,rfl,rfl,l46,rfl,h46_0,h46_6,h46_7,h46_34,h46_35,h46_44,h46_45,h46_3,h46_46,p46_0,p46_1,OG46_3,_⟩
  replace r44:=Boq l46 r44
  have hol46:oo.length = (Asi b).length:=p46_1.1.trans Axs
  refine w_q rfl rfl fun K47 k47=>l_v (Da h46_46 h46_45) (Asa k47 fun K48 k48=>Up (t:=decide ((k:Int) < (((Asi b).length:Nat):Int))) rfl (fun b49=>?_) (fun b49=>?_))
  ·have q49:=of_decide_eq_true b49
   refine Al (k48 _ _ _ _ ?_)
   refine Ai fun K50 k50=>Ao (w_q rfl rfl fun K51 k51=>l_v (Ah (v:=(iV ((k:Int)))) h46_46) ?_)
   obtain ⟨a53,ha53⟩:=Ed (xs:=Asi b) (i:=k) (by omega)
   obtain ⟨lo54,hi54,fa54,ta54,he54,hw54⟩:=Axv ok ha53; subst he54
   refine Arw (Ch k Bhx Asz h46_44 r44 (q:=(k:Int)) h46_46 rfl ha53) fun v52 r52=>Arw (Ax Asz rfl r52) fun v55 r55=>Arv (Ct Ati fun k56=>?_)
   refine Bma (iV ((k:Int))) (Cx rfl (Dv (v:=v55) (a:=(⟨(⟨lo54,hi54⟩:Bnd),(fa54:Int),(ta54:Int)⟩:Strm)) (c:=Aub) Asz rfl rfl r55 rfl ?_))
   refine Bb (a:=(⟨(⟨lo54,hi54⟩:Bnd),(fa54:Int),(ta54:Int)⟩:Strm)) r55 fun ρ57 l57 r57=>?_
   replace OG46_3:=Bom l57 OG46_3
   refine Arx rfl rfl k51 fun K58 k58=>Arw (Ax Asz rfl r57) fun v59 r59=>l_v (Ah (v:=(.int .u64 ((set:Int)))) h46_6) (Arv (Bm (Bgw r59 (by omega) (by omega) (by omega)) Tryz.func160 rfl rfl ⟨rfl,rfl,trivial⟩ ?_))
   refine l_k k58 (Ao (w_q rfl rfl fun K60 k60=>l_v (Ek rfl rfl) (Bma (.bool (Atd set fa54 ta54 == 1)) (l_k k60 (Up (t:=Atd set fa54 ta54 == 1) rfl (fun b61=>?_) (fun b61=>?_))))))
   ·have q61:=Jr b61
    refine Bmw (Bmq 0 zZ9 rfl (Ah (v:=ov46_3) h46_3) (Bmq 1 Ajy rfl (Ah (v:=(iV ((k:Int)))) rfl) (Bmq 2 Ajz rfl (Ah (v:=ov46_3) h46_3) (Bmq 3 zZ6 rfl (Ah (v:=(iV ((k:Int)))) rfl) (Bmq 4 zZ7 rfl (Nw k Bhy ty65.info rfl OG46_3 (q:=(k:Int)) rfl rfl (by omega) rfl) (Bmq 5 zZ8 rfl (Cb (off':=k * Dat.k Span + 0) Bhu rfl rfl ⟨_,Ab Bhq,rfl⟩ (by decide) rfl rfl) (Bmq 7 Bil rfl (Ah (v:=(iV (Asc (Asi b) set))) h46_7) (Bms 8 Bim rfl (Ay Strm.f_b Bjd rfl rfl Aus (by decide) rfl r57) fun v62 r62=>Bms 9 Bin rfl (Ay Bnd.f_high Big rfl rfl ty3 (by decide) rfl r62) fun v63 r63=>?_))))))))
    have ⟨g64a,g64b⟩:=At.rng r63
    refine Bmq 10 Bio rfl (Bc ty3 rfl r63) (Bmq 11 Bip rfl (Br rfl rfl (z:=(Asc (Asi b) set + hi54)) (Bo (by rfl) (by omega) (by omega))) ?_)
    obtain ⟨a66,ha66⟩:=Ed (xs:=oo) (i:=k) (by omega)
    have hssa66:=Axk (set:=set) ok ht hs p46_1 ha53 ha66; have hsza66:=hssa66.1
    have ⟨⟨g65a,g65b⟩,⟨g65c,g65e⟩⟩:=Bak OG46_3 ha66
    refine Bmt 6 Anr rfl (Bdg (A:=(og46_3 ++ σ)) ⟨Bon,fun _ h=>h⟩ (Bff OG46_3 (fun p hp=>List.mem_append_left _ hp) ha66 ⟨_,Bhv,rfl⟩ rfl rfl) ⟨Bon,?_⟩)
    refine Bmr 12 zZ0 rfl (Aqf (p:=a66.low) (q:=(Asc (Asi b) set + hi54)) rfl rfl) (Bmr 13 zZ1 rfl (Nw k Bhy ty65.info rfl OG46_3 (q:=(k:Int)) rfl rfl (by omega) rfl) (Bmr 14 zZ2 rfl (Cb (off':=k * Dat.k Span + 0) Bhu rfl rfl ⟨_,Ab Bhq,rfl⟩ (by decide) rfl rfl) (Bmv 15 zZ3 rfl (Jm (σ:=σ) (gr:=og46_3) (i:=k) (o:=0) (v:=ov46_3) (w:=(iV ((max a66.low ((Asc (Asi b) set + hi54)))))) (z:=a66) (a:=(⟨(max a66.low ((Asc (Asi b) set + hi54))),a66.high⟩:Span)) ⟨_,Ab Bhq,rfl⟩ rfl rfl (by decide) rfl rfl OG46_3 ha66 (Bdx (by constructor <;> omega)) fun gr67 G67=>⟨Bon,?_⟩))))
    refine Ec rfl (k50 _ _ _ _ ?_)
    refine Ag rfl rfl (l_v (Br h46_46 rfl (z:=(((k + 1):Nat):Int)) wrE) (Bmb (iV ((((k + 1):Nat):Int))) (Ac ?_)))
    refine ⟨_,?_,((k + 1)),((oo.set k ((⟨(max a66.low ((Asc (Asi b) set + hi54))),a66.high⟩:Span)))),ov46_3,gr67,rfl,rfl,(Boo l46 l57),rfl,h46_0,h46_6,h46_7,h46_34,h46_35,h46_44,h46_45,h46_3,rfl,(by omega),(hssa66.2.1 q61),(Fy (rfl) G67),trivial⟩
    omega
   have q61:=Jq b61
   refine w_q rfl rfl fun K68 k68=>l_v (Ek rfl rfl) (Bma (.bool (Atd set fa54 ta54 == 2)) (l_k k68 (Up (t:=Atd set fa54 ta54 == 2) rfl (fun b69=>?_) (fun b69=>?_))))
   ·have q69:=Jr b69
    refine Bmw (Bmq 0 zZ9 rfl (Ah (v:=ov46_3) h46_3) (Bmq 1 Ajy rfl (Ah (v:=(iV ((k:Int)))) rfl) (Bmq 2 Ajz rfl (Ah (v:=ov46_3) h46_3) (Bmq 3 zZ6 rfl (Ah (v:=(iV ((k:Int)))) rfl) (Bmq 4 zZ7 rfl (Nw k Bhy ty65.info rfl OG46_3 (q:=(k:Int)) rfl rfl (by omega) rfl) (Bmq 5 zZ8 rfl (Cb (off':=k * Dat.k Span + 1) Bhu rfl rfl ⟨_,Ab Bhq,rfl⟩ (by decide) rfl rfl) (Bms 7 Bil rfl (Ay Strm.f_b Bjd rfl rfl Aus (by decide) rfl r57) fun v70 r70=>Bms 8 Bim rfl (Ay Bnd.f_low Big rfl rfl ty3 (by decide) rfl r70) fun v71 r71=>?_)))))))
    have ⟨g72a,g72b⟩:=At.rng r71
    refine Bmq 9 Bin rfl (Bc ty3 rfl r71) (Bmq 10 Bio rfl (Ah (v:=(iV (Asc (Asi b) set))) h46_7) (Bmq 11 Bip rfl (Ou rfl rfl (z:=(lo54 - Asc (Asi b) set)) (Bo (by rfl) (by omega) (by omega))) ?_))
    obtain ⟨a74,ha74⟩:=Ed (xs:=oo) (i:=k) (by omega)
    have hssa74:=Axk (set:=set) ok ht hs p46_1 ha53 ha74; have hsza74:=hssa74.1
    have ⟨⟨g73a,g73b⟩,⟨g73c,g73e⟩⟩:=Bak OG46_3 ha74
    refine Bmt 6 Anr rfl (Bdg (A:=(og46_3 ++ σ)) ⟨Bon,fun _ h=>h⟩ (Bfe OG46_3 (fun p hp=>List.mem_append_left _ hp) ha74 ⟨_,Bhv,rfl⟩ rfl rfl) ⟨Bon,?_⟩)
    refine Bmr 12 zZ0 rfl (Ajx (p:=a74.high) (q:=(lo54 - Asc (Asi b) set)) rfl rfl) (Bmr 13 zZ1 rfl (Nw k Bhy ty65.info rfl OG46_3 (q:=(k:Int)) rfl rfl (by omega) rfl) (Bmr 14 zZ2 rfl (Cb (off':=k * Dat.k Span + 1) Bhu rfl rfl ⟨_,Ab Bhq,rfl⟩ (by decide) rfl rfl) (Bmv 15 zZ3 rfl (Jm (σ:=σ) (gr:=og46_3) (i:=k) (o:=1) (v:=ov46_3) (w:=(iV ((min a74.high ((lo54 - Asc (Asi b) set)))))) (z:=a74) (a:=(⟨a74.low,(min a74.high ((lo54 - Asc (Asi b) set)))⟩:Span)) ⟨_,Ab Bhq,rfl⟩ rfl rfl (by decide) rfl rfl OG46_3 ha74 (Bdy (by constructor <;> omega)) fun gr75 G75=>⟨Bon,?_⟩))))
    refine Ec rfl (k50 _ _ _ _ ?_)
    refine Ag rfl rfl (l_v (Br h46_46 rfl (z:=(((k + 1):Nat):Int)) wrE) (Bmb (iV ((((k + 1):Nat):Int))) (Ac ?_)))
    refine ⟨_,?_,((k + 1)),((oo.set k ((⟨a74.low,(min a74.high ((lo54 - Asc (Asi b) set)))⟩:Span)))),ov46_3,gr75,rfl,rfl,(Boo l46 l57),rfl,h46_0,h46_6,h46_7,h46_34,h46_35,h46_44,h46_45,h46_3,rfl,(by omega),(hssa74.2.2 q69),(Fy (rfl) G75),trivial⟩
    omega
   have q69:=Jq b69
   refine Al (k50 _ _ _ _ ?_)
   refine Ag rfl rfl (l_v (Br h46_46 rfl (z:=(((k + 1):Nat):Int)) wrE) (Bmb (iV ((((k + 1):Nat):Int))) (Ac ?_)))
   refine ⟨_,?_,((k + 1)),(oo),ov46_3,og46_3,rfl,rfl,(Boo l46 l57),rfl,h46_0,h46_6,h46_7,h46_34,h46_35,h46_44,h46_45,h46_3,rfl,(by omega),p46_1,(Fy (rfl) OG46_3),trivial⟩
   omega
  have q49:=of_decide_eq_false b49
  refine Bx (k38 _ _ _ _ ?_)
  refine Ag rfl rfl (l_v (Br h46_35 rfl (z:=(((set + 1):Nat):Int)) ((Ev (by omega) (by omega)).trans (by push_cast; rfl))) (Bmb (.int .u64 ((((set + 1):Nat):Int))) (Ac ?_)))
  refine ⟨_,?_,((set + 1)),(oo),ov46_3,og46_3,rfl,rfl,(Boo l34 l46),rfl,h46_0,h46_34,h46_3,rfl,(by omega),p46_1,(Fy (rfl) OG46_3),trivial⟩
  omega
 have q37:=of_decide_eq_false b37
 refine Bx (k30 _ _ _ _ ?_)
 refine Ai fun K76 k76=>Hc OG34_3 fun ρ77 l77 r77=>Ag rfl rfl (l_v (Ah (v:=ov34_3) h34_3) (Bma ov34_3 (l_k k76 (Aq (hret _ _ _ (⟨(Boo (Boo l8 l34) l77),rfl,ov34_3,o,rfl,r77,p34_1⟩))))))
theorem Bef {b:TBook} {vb:Value} {m:List Int} {g x:Nat→Int} (rb:Val ρ vb b) (ok:TBookOk b) (ht:Truth b m g x) (hs:Ato b m):CallsH (CX mn X) 72 #[vb,(iV ((-1)))] ρ σ (fun w ρ' σ'=>Ro.le ρ ρ'∧σ' = σ∧∃ (v:Value) (f:Int),w = (.tuple #[v,.int .i64 f])∧(f = 9∨f = 0∧∃ o:List Span,Val ρ' v o∧Asx (Aut b m g x) o)):=by
 refine Bh (n:=15) (args:=[vb,(iV ((-1)))]) [4,5] Tryz.func72 rfl rfl rfl rfl fun Q hret hnor=>w_q rfl rfl fun K1 k1=>Arv (Eb (v:=vb) rfl fun k2=>?_)
 refine Bb (a:=b) rb fun ρ2 l2 r2=>Bma (nS) (Bma (iV (0)) (Arx rfl rfl k1 fun K3 k3=>Arw (Ax Ath rfl r2) fun v4 r4=>Bmb (iV ((-1))) (Arv (Cm (vs:=[v4,(iV ((-1)))]) (Bej r4 ok) Tryz.func124 rfl rfl ⟨rfl,rfl,trivial⟩ fun w5 ρ5 σ5 hc5=>?_))))
 obtain ⟨l5,s5,v5,hw5,r5⟩:=hc5
 replace s5:=s5.symm; subst s5 hw5
 refine Bma w5 (Ary rfl rfl k3 fun K6 K7 k6 k7=>Bmb w5 (Arv (Cm (vs:=[w5]) (Beg r5 ok) Tryz.func125 rfl rfl ⟨rfl,trivial⟩ fun w8 ρ8 σ8 hc8=>?_)))
 obtain ⟨hr8,hs8,b8_,hw8⟩:=hc8
 replace hr8:=hr8.symm; replace hs8:=hs8.symm; subst hr8 hs8 hw8
 refine l_v (Iy rfl) (l_k k7 (Up (t:=!(b8_)) rfl (fun b9=>?_) (fun b9=>?_)))
 ·have b10:=not_eq_t b9
  refine w_q rfl rfl fun K11 k11=>Bma (nS) (Bma (iV (9)) (l_k k11 (Aq (hret _ _ _ (⟨(Boo l2 l5),rfl,_,9,(Mp (r:=4) (r':=5) (rs:=[]) (v:=(nS)) (v':=(iV (9))) (vs:=[]) ⟨rfl,rfl,trivial⟩),.inl rfl⟩)))))
 have b12:=not_eq_f b9
 refine Al (k6 _ _ _ _ ?_)
 refine w_q rfl rfl fun K13 k13=>Bmb w5 (Arv (Cm (vs:=[w5]) (Bei r5 ok ht hs) Tryz.func126 rfl rfl ⟨rfl,trivial⟩ fun w14 ρ14 σ14 hc14=>?_))
 obtain ⟨l14,s14,v14,o,hw14,r14,hO⟩:=hc14
 replace s14:=s14.symm; subst s14 hw14
 refine Bma w14 (Bma (iV (0)) (l_k k13 (Aq (hret _ _ _ (⟨(Boo (Boo l2 l5) l14),rfl,_,0,(Mp (r:=4) (r':=5) (rs:=[]) (v:=w14) (v':=(iV (0))) (vs:=[]) ⟨rfl,rfl,trivial⟩),.inr ⟨rfl,o,r14,hO⟩⟩)))))
theorem Bdn {b:TBook} {vb:Value} {m:List Int} {g x:Nat→Int} (rb:Val ρ vb b) (ok:TBookOk b) (ht:Truth b m g x) (hs:Ato b m):CallsH (CX mn X) 28 #[vb] ρ σ (fun w ρ' σ'=>Ro.le ρ ρ'∧σ' = σ∧∃ (v:Value) (f:Int),w = (.tuple #[v,.int .i64 f])∧(f = 9∨f = 0∧∃ o:List Span,Val ρ' v o∧o.length = b.piles.length∧∀ (p:Nat) (z:Span),p < b.piles.length→o[p]? = some z→0 ≤ z.low∧z.low ≤ Aht m (p:Int)∧Aht m (p:Int) ≤ z.high∧z.high ≤ 1000000)):=by
 have hn8:=ok.nsteps
 refine Bh (n:=28) (args:=[vb]) [2,3] Tryz.func28 rfl rfl rfl rfl fun Q hret hnor=>w_q rfl rfl fun K1 k1=>Arv (Eb (v:=vb) rfl fun k2=>?_)
 refine Bb (a:=b) rb fun ρ2 l2 r2=>Bma (nS) (Bma (iV (0)) (Ary rfl rfl k1 fun K3 K4 k3 k4=>Arw (Ax Ath rfl r2) fun v5 r5=>Arv (Bm (Aye r5 ok) Tryz.func71 rfl rfl ⟨rfl,trivial⟩ ?_)))
 refine Bma (iV (0)) (Arx rfl rfl k4 fun K6 k6=>Bmb (iV (0)) (l_v (Dg rfl rfl) (l_k k6 (Cg rfl rfl (Al (k3 _ _ _ _ ?_))))))
 refine w_q rfl rfl fun K7 k7=>Arw (Ax Ath rfl r2) fun v8 r8=>Arv (Cm (vs:=[v8,(iV ((-1)))]) (Bef r8 ok ht hs) Tryz.func72 rfl rfl ⟨rfl,rfl,trivial⟩ fun w9 ρ9 σ9 hc9=>?_)
 obtain ⟨l9,s9,v9,f9_,hw9,hO⟩:=hc9
 replace s9:=s9.symm; subst s9 hw9
 replace r2:=At.mono l9 r2
 refine Bmb (.tuple #[v9,(iV (f9_))]) (l_v (Bk (vs:=#[v9,(iV (f9_))]) rfl (v:=v9) rfl) (l_v (Bk (vs:=#[v9,(iV (f9_))]) rfl (v:=(iV (f9_))) rfl) (Bma v9 (Bma (iV (f9_)) (Ary rfl rfl k7 fun K10 K11 k10 k11=>Bmb (iV (f9_)) (l_v (Dg rfl rfl) (l_k k11 (Up (t:=f9_ != 0) rfl (fun b12=>?_) (fun b12=>?_)))))))))
 ·have q12:=Ls b12
  refine w_q rfl rfl fun K13 k13=>Bmb (iV (f9_)) (Bma (nS) (Bma (iV (f9_)) (l_k k13 (Aq (hret _ _ _ (⟨(Boo l2 l9),rfl,_,_,(Mp (r:=2) (r':=3) (rs:=[]) (v:=(nS)) (v':=(iV (f9_))) (vs:=[]) ⟨rfl,rfl,trivial⟩),.inl (hO.elim id fun h=>absurd h.1 (Ls b12))⟩))))))
 obtain ⟨o,ro,hS⟩:∃ o:List Span,Val ρ9 v9 o∧Asx (Aut b m g x) o:=hO.elim (fun h=>absurd (Jh b12) (by omega)) fun h=>h.2
 have hol:o.length = b.piles.length + 2 * b.steps.length:=(hS.1.trans Axs).trans (Auu ok).1
 have q12:=Jh b12
 refine Al (k10 _ _ _ _ ?_)
 refine w_q rfl rfl fun K14 k14=>Bmb v9 (Arw (Ay TBook.f_piles Bhr rfl rfl Hw (by decide) rfl r2) fun v15 r15=>Arw (Ax Hw rfl r15) fun v16 r16=>?_)
 have g17:=Bop r16
 refine l_v (Ci (el:=9) Bhs rfl r16) (Arw (Ay TBook.f_piles Bhr rfl rfl Hw (by decide) rfl r2) fun v18 r18=>Arw (Ax Hw rfl r18) fun v19 r19=>?_)
 have g20:=Bop r19
 refine l_v (Ci (el:=9) Bhs rfl r19) (Arw (Bcl b.piles.length Bhy ty65 rfl ro (q:=((b.piles.length:Nat):Int)) rfl rfl rfl (by omega)) fun v21 r21=>Bma v21 (Bma (iV (0)) (l_k k14 (Aq (hret _ _ _ (⟨(Boo l2 l9),rfl,_,0,(Mp (r:=2) (r':=3) (rs:=[]) (v:=v21) (v':=(iV (0))) (vs:=[]) ⟨rfl,rfl,trivial⟩),.inr ⟨rfl,_,r21,by rw [List.length_take]; omega,fun p z hp hz=>Bce hS hp (by rw [List.getElem?_take,if_pos hp] at hz; exact hz)⟩⟩))))))
end
section
set_option maxHeartbeats 1000000
open Go
set_option maxHeartbeats 4000000 in
theorem Ayg  {ρ:Ro} {σ:Own} {b:TBook} {at_ more:Nat} {picks:List UH} {vb vk:Value} (hg:Glob ρ) (hnr:Jp σ) (rb:Val ρ vb b) (hat:at_ < 256) (rk:Val ρ vk picks) (hmore:more < 65536):Agd (CX true (Ade Tryz.prog)) 5 8 [vb,(.int .u8 ((at_:Int))),vk,(.int .u16 ((more:Int)))] ρ σ (rP ρ σ (.bool (true))):=by
 refine Bhm (n:=145) Tryz.func5 rfl rfl rfl rfl fun Q hret hnor=>w_q rfl rfl fun K1 k1=>Arv (Eb (v:=vb) rfl fun k2=>?_)
 refine Bb (a:=b) rb fun ρ2 l2 r2=>?_
 replace rk:=Boq l2 rk
 replace hg:=Glob.mono l2 hg
 refine Bma (.bool (false)) (Ary rfl rfl k1 fun K3 K4 k3 k4=>Arw (Ax Ath rfl r2) fun v5 r5=>Arv (Cm (vs:=[v5]) (Bec r5) Tryz.func24 rfl rfl ⟨rfl,trivial⟩ fun w6 ρ6 σ6 hc6=>?_))
 obtain ⟨hr6,hs6,b6_,hw6⟩:=hc6
 replace hr6:=hr6.symm; replace hs6:=hs6.symm; subst hr6 hs6 hw6
 refine Bmb (.bool (b6_)) (Cn (b6_) (fun b7=>?_) (fun b7=>?_))
 ·refine Ap (gN rfl b7) (Ap (gN rfl b7) (Ap (gN rfl b7) (l_v (Bt rfl b7 (v:=(.bool (true))) rfl) (Bmb (.bool (true)) (Ap (gN rfl rfl) (Ap (gN rfl rfl) (Ap (gN rfl rfl) (Ap (gN rfl rfl) (l_v (Bt rfl rfl (v:=(.bool (true))) rfl) (l_k k4 (Co rfl rfl (w_q rfl rfl fun K8 k8=>Arv (Bm (Aud hg hnr) Blx rfl rfl trivial ?_)))))))))))))
  refine Bma (.bool (true)) (l_k k8 (Aj (Bok l2) (Aq (hret _ _ _ ⟨rfl,rfl,eT (.bool (true)) ?_⟩))))
  rfl
 refine Ak (gY rfl b7) (Ax Ath rfl r2) fun v9 r9=>Ae (gY rfl b7) (Cm (vs:=[v9]) (Aws r9) Tryz.func25 rfl rfl ⟨rfl,trivial⟩ fun w10 ρ10 σ10 hc10=>?_)
 obtain ⟨hr10,hs10,f10_,hw10,hz10⟩:=hc10
 replace hr10:=hr10.symm; replace hs10:=hs10.symm; subst hr10 hs10 hw10
 refine Aa (gY rfl b7) (Dg rfl rfl) (l_v (Bn rfl b7 (v:=(.bool (f10_ != 0))) rfl) (Bmb (.bool (f10_ != 0)) (Cn (f10_ != 0) (fun b11=>?_) (fun b11=>?_))))
 ·have q11:=Ls b11
  refine Ap (gN rfl b11) (Ap (gN rfl b11) (Ap (gN rfl b11) (Ap (gN rfl b11) (l_v (Bt rfl b11 (v:=(.bool (true))) rfl) (l_k k4 (Co rfl rfl (w_q rfl rfl fun K12 k12=>Arv (Bm (Aud hg hnr) Blx rfl rfl trivial ?_))))))))
  refine Bma (.bool (true)) (l_k k12 (Aj (Bok l2) (Aq (hret _ _ _ ⟨rfl,rfl,eT (.bool (true)) ?_⟩))))
  rfl
 have ok:=hz10 (Jh b11)
 have q11:=Jh b11
 refine Ak (gY rfl b11) (Ay TBook.f_piles Bhr rfl rfl Hw (by decide) rfl r2) fun v13 r13=>Ak (gY rfl b11) (Ax Hw rfl r13) fun v14 r14=>?_
 have g15:=Bop r14
 refine Aa (gY rfl b11) (Ci (el:=9) Bhs rfl r14) (Aa (gY rfl b11) (Ek rfl rfl) (l_v (Bn rfl b11 (v:=(.bool (((b.piles.length:Nat):Int) == 0))) rfl) (l_k k4 (Up (t:=((b.piles.length:Nat):Int) == 0) rfl (fun b16=>?_) (fun b16=>?_)))))
 ·have q16:=Jr b16
  refine w_q rfl rfl fun K17 k17=>Arv (Bm (Aud hg hnr) Blx rfl rfl trivial ?_)
  refine Bma (.bool (true)) (l_k k17 (Aj (Bok l2) (Aq (hret _ _ _ ⟨rfl,rfl,eT (.bool (true)) ?_⟩))))
  rfl
 have q16:=Jq b16
 refine Al (k3 _ _ _ _ ?_)
 refine w_q rfl rfl fun K18 k18=>Arw (Ax Ath rfl r2) fun v19 r19=>Bmb vk (Arv (Cm (vs:=[v19,vk]) (Bee r19 ok rk) Tryz.func26 rfl rfl ⟨rfl,rfl,trivial⟩ fun w20 ρ20 σ20 hc20=>?_))
 obtain ⟨l20,s20,va20,vc20,m,t,bb,hw20,rm,rt,hT⟩:=hc20
 replace s20:=s20.symm; subst s20 hw20
 replace hg:=Glob.mono l20 hg
 replace r2:=At.mono l20 r2
 refine Bmb (.tuple #[va20,vc20,(.bool (bb))]) (l_v (Bk (vs:=#[va20,vc20,(.bool (bb))]) rfl (v:=va20) rfl) (l_v (Bk (vs:=#[va20,vc20,(.bool (bb))]) rfl (v:=vc20) rfl) (l_v (Bk (vs:=#[va20,vc20,(.bool (bb))]) rfl (v:=(.bool (bb))) rfl) (Bma va20 (Bma vc20 (Bma (.bool (bb)) (Ary rfl rfl k18 fun K21 K22 k21 k22=>Bmb (.bool (bb)) (l_v (Iy rfl) (Bmb (.bool (!(bb))) (Cn (!(bb)) (fun b23=>?_) (fun b23=>?_)))))))))))
 ·have b24:=not_eq_t b23
  refine Ap (gN rfl b23) (Ap (gN rfl b23) (Ap (gN rfl b23) (Ap (gN rfl b23) (Ap (gN rfl b23) (Ap (gN rfl b23) (l_v (Bt rfl b23 (v:=(.bool (true))) rfl) (l_k k22 (Co rfl rfl (w_q rfl rfl fun K25 k25=>Arv (Bm (Aud hg hnr) Blx rfl rfl trivial ?_))))))))))
  refine Bma (.bool (true)) (l_k k25 (Aj (Bok (Boo l2 l20)) (Aq (hret _ _ _ ⟨rfl,rfl,eT (.bool (true)) ?_⟩))))
  rfl
 have b26:=not_eq_f b23
 obtain ⟨g,x,ht⟩:=hT b26; have hml:=ht.len
 refine l_M va20 (gY rfl b23) rfl ?_
 have g27:=Bop rm
 refine Aa (gY rfl b23) (Ci (el:=3) Bho rfl rm) (Ak (gY rfl b23) (Ay TBook.f_piles Bhr rfl rfl Hw (by decide) rfl r2) fun v28 r28=>Ak (gY rfl b23) (Ax Hw rfl r28) fun v29 r29=>?_)
 have g30:=Bop r29
 refine Aa (gY rfl b23) (Ci (el:=9) Bhs rfl r29) (Aa (gY rfl b23) (Dg rfl rfl) (l_v (Bn rfl b23 (v:=(.bool (((m.length:Nat):Int) != ((b.piles.length:Nat):Int)))) rfl) (l_k k22 (Cg rfl (by rw [hml]; simp) (Al (k21 _ _ _ _ ?_))))))
 refine w_q rfl rfl fun K31 k31=>Arw (Ax Ath rfl r2) fun v32 r32=>Bmb va20 (Arv (Cm (vs:=[v32,va20]) (Bbx r32 ok rm ht.len ht.mass) Tryz.func27 rfl rfl ⟨rfl,rfl,trivial⟩ fun v33 ρ33 σ33 hc33=>?_))
 obtain ⟨l33,s33,r33⟩:=hc33
 replace s33:=s33.symm; subst s33
 replace hg:=Glob.mono l33 hg
 replace r2:=At.mono l33 r2
 replace rm:=Boq l33 rm
 refine Arv (Ct Bcn fun k34=>?_)
 refine Cx rfl (Dv (v:=v33) (a:=Axw b m) (c:=Bhg) Ath rfl rfl r33 rfl ?_)
 refine Bb (a:=Axw b m) r33 fun ρ35 l35 r35=>?_
 replace hg:=Glob.mono l35 hg
 replace r2:=At.mono l35 r2
 replace rm:=Boq l35 rm
 refine Ary rfl rfl k31 fun K36 K37 k36 k37=>Arw (Ax Ath rfl r35) fun v38 r38=>Arv (Cm (vs:=[v38]) (Aws r38) Tryz.func25 rfl rfl ⟨rfl,trivial⟩ fun w39 ρ39 σ39 hc39=>?_)
 obtain ⟨hr39,hs39,f39_,hw39,hz39⟩:=hc39
 replace hr39:=hr39.symm; replace hs39:=hs39.symm; subst hr39 hs39 hw39
 refine l_v (Dg rfl rfl) (l_k k37 (Up (t:=f39_ != 0) rfl (fun b40=>?_) (fun b40=>?_)))
 ·have q40:=Ls b40
  refine w_q rfl rfl fun K41 k41=>Arv (Bm (Aud hg hnr) Blx rfl rfl trivial ?_)
  refine Bma (.bool (true)) (l_k k41 (Aj (Bok (Boo (Boo (Boo l2 l20) l33) l35)) (Aq (hret _ _ _ ⟨rfl,rfl,eT (.bool (true)) ?_⟩))))
  rfl
 have okw:=hz39 (Jh b40)
 have q40:=Jh b40
 refine Al (k36 _ _ _ _ ?_)
 refine w_q rfl rfl fun K42 k42=>Bmb (.int .u8 ((at_:Int))) (l_v (Acf (p:=(at_:Int)) (z:=(at_:Int)) Blf Bhv rfl wrR) (Arw (Ay TBook.f_piles Bhr rfl rfl Hw (by decide) rfl r2) fun v43 r43=>Arw (Ax Hw rfl r43) fun v44 r44=>?_))
 have g45:=Bop r44
 refine l_v (Ci (el:=9) Bhs rfl r44) (l_v (Bdj (p:=(at_:Int)) (q:=((b.piles.length:Nat):Int)) rfl rfl (by omega) (z:=(((at_ % b.piles.length):Nat):Int)) rfl) ?_)
 obtain ⟨p,hp_⟩:∃ z:Nat,z = (at_ % b.piles.length):=⟨_,rfl⟩
 refine l_v (Cp (v:=(iV (p:Int))) ((show _ = Value.int .i64 ((((at_ % b.piles.length)):Nat):Int) from rfl).trans (by rw [hp_]))) ?_
 have hp:p < b.piles.length:=by rw [hp_]; exact Nat.mod_lt _ (by omega)
 refine Arx rfl rfl k42 fun K46 k46=>Arw (Ax Ath rfl r35) fun v47 r47=>Arv (Cm (vs:=[v47]) (Bdn r47 okw (Bbr ht) (Azy ok ht)) Tryz.func28 rfl rfl ⟨rfl,trivial⟩ fun w48 ρ48 σ48 hc48=>?_)
 obtain ⟨l48,s48,v48,f48_,hw48,hO⟩:=hc48
 replace s48:=s48.symm; subst s48 hw48
 replace hg:=Glob.mono l48 hg
 replace r2:=At.mono l48 r2
 replace rm:=Boq l48 rm
 refine Bmb (.tuple #[v48,(iV (f48_))]) (l_v (Bk (vs:=#[v48,(iV (f48_))]) rfl (v:=v48) rfl) (l_v (Bk (vs:=#[v48,(iV (f48_))]) rfl (v:=(iV (f48_))) rfl) (Bma v48 (Bma (iV (f48_)) (Ary rfl rfl k46 fun K49 K50 k49 k50=>Bmb (iV (f48_)) (l_v (Dg rfl rfl) (l_k k50 (Up (t:=f48_ != 0) rfl (fun b51=>?_) (fun b51=>?_)))))))))
 ·have h9:f48_ = 9:=hO.elim id fun h=>absurd h.1 (Ls b51)
  have q51:=Ls b51
  refine w_q rfl rfl fun K52 k52=>Bmb (iV (f48_)) (l_v (Ek rfl rfl) (Bmb (.bool (f48_ == 9)) (Ae (gY rfl (beq_iff_eq.2 h9)) (Bm (Aud hg hnr) Blx rfl rfl trivial ?_))))
  refine l_v (Bt rfl (beq_iff_eq.2 h9) (v:=(.bool (true))) rfl) (Bma (.bool (true)) (l_k k52 (Aj (Bok (Boo (Boo (Boo (Boo l2 l20) l33) l35) l48)) (Aq (hret _ _ _ ⟨rfl,rfl,eT (.bool (true)) ?_⟩)))))
  rfl
 obtain ⟨o,ro,hol,hob⟩:∃ o:List Span,Val ρ48 v48 o∧o.length = b.piles.length∧∀ (p:Nat) (z:Span),p < b.piles.length→o[p]? = some z→0 ≤ z.low∧z.low ≤ Aht m (p:Int)∧Aht m (p:Int) ≤ z.high∧z.high ≤ 1000000:=hO.elim (fun h=>absurd (Jh b51) (by omega)) fun h=>h.2
 have q51:=Jh b51
 refine Al (k49 _ _ _ _ ?_)
 refine Ai fun K53 k53=>Ai fun K54 k54=>Bmw (Bmq 0 [o1,o0,o0,o0,o0,o0,o0,o0,o0,o0,o0,o0,o0,o0,o0,o0,o0,o0,o0,o0,o0,o0,o0,o0,o0,o0,o0,o0,o0,o0,o0,o0,o0,o0,o0,o0,o0,o0,o0,o0,o0,o0,o0,o0] rfl (Ah (v:=v48) rfl) ?_)
 have g55:=Bop ro
 refine Bmq 1 [o1,o1,o0,o0,o0,o0,o0,o0,o0,o0,o0,o0,o0,o0,o0,o0,o0,o0,o0,o0,o0,o0,o0,o0,o0,o0,o0,o0,o0,o0,o0,o0,o0,o0,o0,o0,o0,o0,o0,o0,o0,o0,o0,o0] rfl (Ci (el:=41) Bhy rfl ro) (Bmu 2 [o1,o1,o1,o0,o0,o0,o0,o0,o0,o0,o0,o0,o0,o0,o0,o0,o0,o0,o0,o0,o0,o0,o0,o0,o0,o0,o0,o0,o0,o0,o0,o0,o0,o0,o0,o0,o0,o0,o0,o0,o0,o0,o0,o0] rfl (Ay TBook.f_piles Bhr rfl rfl Hw (by decide) rfl r2) fun v56 r56=>Bmu 3 [o1,o1,o1,o1,o0,o0,o0,o0,o0,o0,o0,o0,o0,o0,o0,o0,o0,o0,o0,o0,o0,o0,o0,o0,o0,o0,o0,o0,o0,o0,o0,o0,o0,o0,o0,o0,o0,o0,o0,o0,o0,o0,o0,o0] rfl (Ax Hw rfl r56) fun v57 r57=>?_)
 have g58:=Bop r57
 refine Bmr 4 [o1,o1,o1,o1,o1,o0,o0,o0,o0,o0,o0,o0,o0,o0,o0,o0,o0,o0,o0,o0,o0,o0,o0,o0,o0,o0,o0,o0,o0,o0,o0,o0,o0,o0,o0,o0,o0,o0,o0,o0,o0,o0,o0,o0] rfl (Ci (el:=9) Bhs rfl r57) (Bmr 5 [o1,o1,o1,o1,o1,o1,o0,o0,o0,o0,o0,o0,o0,o0,o0,o0,o0,o0,o0,o0,o0,o0,o0,o0,o0,o0,o0,o0,o0,o0,o0,o0,o0,o0,o0,o0,o0,o0,o0,o0,o0,o0,o0,o0] rfl (Dg rfl rfl) (Bmr 6 [o1,o1,o1,o1,o1,o1,o1,o0,o0,o0,o0,o0,o0,o0,o0,o0,o0,o0,o0,o0,o0,o0,o0,o0,o0,o0,o0,o0,o0,o0,o0,o0,o0,o0,o0,o0,o0,o0,o0,o0,o0,o0,o0,o0] rfl (Ah (v:=(.bool (((o.length:Nat):Int) != ((b.piles.length:Nat):Int)))) rfl) (Bmc 7 [o1,o1,o1,o1,o1,o1,o1,o1,o0,o0,o0,o0,o0,o0,o0,o0,o0,o0,o0,o0,o0,o0,o0,o0,o0,o0,o0,o0,o0,o0,o0,o0,o0,o0,o0,o0,o0,o0,o0,o0,o0,o0,o0,o0] rfl Bon (gY rfl (by rw [hol]; simp)) (Ah (v:=va20) rfl) (Bmc 8 [o1,o1,o1,o1,o1,o1,o1,o1,o1,o0,o0,o0,o0,o0,o0,o0,o0,o0,o0,o0,o0,o0,o0,o0,o0,o0,o0,o0,o0,o0,o0,o0,o0,o0,o0,o0,o0,o0,o0,o0,o0,o0,o0,o0] rfl Bon (gY rfl (by rw [hol]; simp)) (Ah (v:=(iV ((p:Int)))) rfl) ?_))))
 obtain ⟨a60,ha60⟩:=Ed (xs:=m) (i:=p) (by omega)
 have hma:Aht m (p:Int) = a60:=Auk (p:=(p:Int)) ha60
 refine Bme 9 [o1,o1,o1,o1,o1,o1,o1,o1,o1,o1,o0,o0,o0,o0,o0,o0,o0,o0,o0,o0,o0,o0,o0,o0,o0,o0,o0,o0,o0,o0,o0,o0,o0,o0,o0,o0,o0,o0,o0,o0,o0,o0,o0,o0] rfl Bon (gY rfl (by rw [hol]; simp)) (Ch p Bho ty3 rfl rm (q:=(p:Int)) rfl rfl ha60) fun v59 r59=>?_
 have ⟨g61a,g61b⟩:=At.rng r59
 refine Bmc 10 [o1,o1,o1,o1,o1,o1,o1,o1,o1,o1,o1,o0,o0,o0,o0,o0,o0,o0,o0,o0,o0,o0,o0,o0,o0,o0,o0,o0,o0,o0,o0,o0,o0,o0,o0,o0,o0,o0,o0,o0,o0,o0,o0,o0] rfl Bon (gY rfl (by rw [hol]; simp)) (Bc ty3 rfl r59) (Bmc 11 [o1,o1,o1,o1,o1,o1,o1,o1,o1,o1,o1,o1,o0,o0,o0,o0,o0,o0,o0,o0,o0,o0,o0,o0,o0,o0,o0,o0,o0,o0,o0,o0,o0,o0,o0,o0,o0,o0,o0,o0,o0,o0,o0,o0] rfl Bon (gY rfl (by rw [hol]; simp)) (Ah (v:=v48) rfl) (Bmd 12 [o1,o1,o1,o1,o1,o1,o1,o1,o1,o1,o1,o1,o1,o0,o0,o0,o0,o0,o0,o0,o0,o0,o0,o0,o0,o0,o0,o0,o0,o0,o0,o0,o0,o0,o0,o0,o0,o0,o0,o0,o0,o0,o0,o0] rfl Bon (gY rfl (by rw [hol]; simp)) (Ah (v:=(iV ((p:Int)))) rfl) ?_))
 obtain ⟨a63,ha63⟩:=Ed (xs:=o) (i:=p) (by omega)
 have hbo:=hob p a63 hp ha63; rw [hma] at hbo
 refine Bmg 13 [o1,o1,o1,o1,o1,o1,o1,o1,o1,o1,o1,o1,o1,o1,o0,o0,o0,o0,o0,o0,o0,o0,o0,o0,o0,o0,o0,o0,o0,o0,o0,o0,o0,o0,o0,o0,o0,o0,o0,o0,o0,o0,o0,o0] rfl Bon (gY rfl (by rw [hol]; simp)) (Ch p Bhy ty65 rfl ro (q:=(p:Int)) rfl rfl ha63) fun v62 r62=>Bmg 14 [o1,o1,o1,o1,o1,o1,o1,o1,o1,o1,o1,o1,o1,o1,o1,o0,o0,o0,o0,o0,o0,o0,o0,o0,o0,o0,o0,o0,o0,o0,o0,o0,o0,o0,o0,o0,o0,o0,o0,o0,o0,o0,o0,o0] rfl Bon (gY rfl (by rw [hol]; simp)) (Ay Span.f_low Bhu rfl rfl ty3 (by decide) rfl r62) fun v64 r64=>?_
 have ⟨g65a,g65b⟩:=At.rng r64
 refine Bmd 15 [o1,o1,o1,o1,o1,o1,o1,o1,o1,o1,o1,o1,o1,o1,o1,o1,o0,o0,o0,o0,o0,o0,o0,o0,o0,o0,o0,o0,o0,o0,o0,o0,o0,o0,o0,o0,o0,o0,o0,o0,o0,o0,o0,o0] rfl Bon (gY rfl (by rw [hol]; simp)) (Bc ty3 rfl r64) (Bmd 16 [o1,o1,o1,o1,o1,o1,o1,o1,o1,o1,o1,o1,o1,o1,o1,o1,o1,o0,o0,o0,o0,o0,o0,o0,o0,o0,o0,o0,o0,o0,o0,o0,o0,o0,o0,o0,o0,o0,o0,o0,o0,o0,o0,o0] rfl Bon (gY rfl (by rw [hol]; simp)) (Da rfl rfl) (Bmr 17 [o1,o1,o1,o1,o1,o1,o1,o1,o1,o1,o1,o1,o1,o1,o1,o1,o1,o1,o0,o0,o0,o0,o0,o0,o0,o0,o0,o0,o0,o0,o0,o0,o0,o0,o0,o0,o0,o0,o0,o0,o0,o0,o0,o0] rfl (Bn rfl (by rw [hol]; simp) (v:=(.bool (decide (a60 < a63.low)))) rfl) (Bmr 18 [o1,o1,o1,o1,o1,o1,o1,o1,o1,o1,o1,o1,o1,o1,o1,o1,o1,o1,o1,o0,o0,o0,o0,o0,o0,o0,o0,o0,o0,o0,o0,o0,o0,o0,o0,o0,o0,o0,o0,o0,o0,o0,o0,o0] rfl (Ah (v:=(.bool (decide (a60 < a63.low)))) rfl) (Bmc 19 [o1,o1,o1,o1,o1,o1,o1,o1,o1,o1,o1,o1,o1,o1,o1,o1,o1,o1,o1,o1,o0,o0,o0,o0,o0,o0,o0,o0,o0,o0,o0,o0,o0,o0,o0,o0,o0,o0,o0,o0,o0,o0,o0,o0] rfl Bon (gY rfl (decide_eq_false (by omega))) (Ah (v:=va20) rfl) (Bmc 20 [o1,o1,o1,o1,o1,o1,o1,o1,o1,o1,o1,o1,o1,o1,o1,o1,o1,o1,o1,o1,o1,o0,o0,o0,o0,o0,o0,o0,o0,o0,o0,o0,o0,o0,o0,o0,o0,o0,o0,o0,o0,o0,o0,o0] rfl Bon (gY rfl (decide_eq_false (by omega))) (Ah (v:=(iV ((p:Int)))) rfl) (Bme 21 [o1,o1,o1,o1,o1,o1,o1,o1,o1,o1,o1,o1,o1,o1,o1,o1,o1,o1,o1,o1,o1,o1,o0,o0,o0,o0,o0,o0,o0,o0,o0,o0,o0,o0,o0,o0,o0,o0,o0,o0,o0,o0,o0,o0] rfl Bon (gY rfl (decide_eq_false (by omega))) (Ch p Bho ty3 rfl rm (q:=(p:Int)) rfl rfl ha60) fun v66 r66=>?_))))))
 have ⟨g67a,g67b⟩:=At.rng r66
 refine Bmc 22 [o1,o1,o1,o1,o1,o1,o1,o1,o1,o1,o1,o1,o1,o1,o1,o1,o1,o1,o1,o1,o1,o1,o1,o0,o0,o0,o0,o0,o0,o0,o0,o0,o0,o0,o0,o0,o0,o0,o0,o0,o0,o0,o0,o0] rfl Bon (gY rfl (decide_eq_false (by omega))) (Bc ty3 rfl r66) (Bmc 23 [o1,o1,o1,o1,o1,o1,o1,o1,o1,o1,o1,o1,o1,o1,o1,o1,o1,o1,o1,o1,o1,o1,o1,o1,o0,o0,o0,o0,o0,o0,o0,o0,o0,o0,o0,o0,o0,o0,o0,o0,o0,o0,o0,o0] rfl Bon (gY rfl (decide_eq_false (by omega))) (Ah (v:=v48) rfl) (Bmd 24 [o1,o1,o1,o1,o1,o1,o1,o1,o1,o1,o1,o1,o1,o1,o1,o1,o1,o1,o1,o1,o1,o1,o1,o1,o1,o0,o0,o0,o0,o0,o0,o0,o0,o0,o0,o0,o0,o0,o0,o0,o0,o0,o0,o0] rfl Bon (gY rfl (decide_eq_false (by omega))) (Ah (v:=(iV ((p:Int)))) rfl) (Bmg 25 [o1,o1,o1,o1,o1,o1,o1,o1,o1,o1,o1,o1,o1,o1,o1,o1,o1,o1,o1,o1,o1,o1,o1,o1,o1,o1,o0,o0,o0,o0,o0,o0,o0,o0,o0,o0,o0,o0,o0,o0,o0,o0,o0,o0] rfl Bon (gY rfl (decide_eq_false (by omega))) (Ch p Bhy ty65 rfl ro (q:=(p:Int)) rfl rfl ha63) fun v68 r68=>Bmg 26 [o1,o1,o1,o1,o1,o1,o1,o1,o1,o1,o1,o1,o1,o1,o1,o1,o1,o1,o1,o1,o1,o1,o1,o1,o1,o1,o1,o0,o0,o0,o0,o0,o0,o0,o0,o0,o0,o0,o0,o0,o0,o0,o0,o0] rfl Bon (gY rfl (decide_eq_false (by omega))) (Ay Span.f_high Bhu rfl rfl ty3 (by decide) rfl r68) fun v69 r69=>?_)))
 have ⟨g70a,g70b⟩:=At.rng r69
 refine Bmd 27 [o1,o1,o1,o1,o1,o1,o1,o1,o1,o1,o1,o1,o1,o1,o1,o1,o1,o1,o1,o1,o1,o1,o1,o1,o1,o1,o1,o1,o0,o0,o0,o0,o0,o0,o0,o0,o0,o0,o0,o0,o0,o0,o0,o0] rfl Bon (gY rfl (decide_eq_false (by omega))) (Bc ty3 rfl r69) (Bmd 28 [o1,o1,o1,o1,o1,o1,o1,o1,o1,o1,o1,o1,o1,o1,o1,o1,o1,o1,o1,o1,o1,o1,o1,o1,o1,o1,o1,o1,o1,o0,o0,o0,o0,o0,o0,o0,o0,o0,o0,o0,o0,o0,o0,o0] rfl Bon (gY rfl (decide_eq_false (by omega))) (Gl rfl rfl) (Bmr 29 [o1,o1,o1,o1,o1,o1,o1,o1,o1,o1,o1,o1,o1,o1,o1,o1,o1,o1,o1,o1,o1,o1,o1,o1,o1,o1,o1,o1,o1,o1,o0,o0,o0,o0,o0,o0,o0,o0,o0,o0,o0,o0,o0,o0] rfl (Bn rfl (decide_eq_false (by omega)) (v:=(.bool (decide (a60 > a63.high)))) rfl) (Bmr 30 [o1,o1,o1,o1,o1,o1,o1,o1,o1,o1,o1,o1,o1,o1,o1,o1,o1,o1,o1,o1,o1,o1,o1,o1,o1,o1,o1,o1,o1,o1,o1,o0,o0,o0,o0,o0,o0,o0,o0,o0,o0,o0,o0,o0] rfl (Ah (v:=(.bool (decide (a60 > a63.high)))) rfl) (Bmc 31 [o1,o1,o1,o1,o1,o1,o1,o1,o1,o1,o1,o1,o1,o1,o1,o1,o1,o1,o1,o1,o1,o1,o1,o1,o1,o1,o1,o1,o1,o1,o1,o1,o0,o0,o0,o0,o0,o0,o0,o0,o0,o0,o0,o0] rfl Bon (gY rfl (decide_eq_false (by omega))) (Ah (v:=v48) rfl) (Bmc 32 [o1,o1,o1,o1,o1,o1,o1,o1,o1,o1,o1,o1,o1,o1,o1,o1,o1,o1,o1,o1,o1,o1,o1,o1,o1,o1,o1,o1,o1,o1,o1,o1,o1,o0,o0,o0,o0,o0,o0,o0,o0,o0,o0,o0] rfl Bon (gY rfl (decide_eq_false (by omega))) (Ah (v:=(iV ((p:Int)))) rfl) (Bme 33 [o1,o1,o1,o1,o1,o1,o1,o1,o1,o1,o1,o1,o1,o1,o1,o1,o1,o1,o1,o1,o1,o1,o1,o1,o1,o1,o1,o1,o1,o1,o1,o1,o1,o1,o0,o0,o0,o0,o0,o0,o0,o0,o0,o0] rfl Bon (gY rfl (decide_eq_false (by omega))) (Ch p Bhy ty65 rfl ro (q:=(p:Int)) rfl rfl ha63) fun v71 r71=>Bme 34 [o1,o1,o1,o1,o1,o1,o1,o1,o1,o1,o1,o1,o1,o1,o1,o1,o1,o1,o1,o1,o1,o1,o1,o1,o1,o1,o1,o1,o1,o1,o1,o1,o1,o1,o1,o0,o0,o0,o0,o0,o0,o0,o0,o0] rfl Bon (gY rfl (decide_eq_false (by omega))) (Ax ty65 rfl r71) fun v72 r72=>Bmc 35 [o1,o1,o1,o1,o1,o1,o1,o1,o1,o1,o1,o1,o1,o1,o1,o1,o1,o1,o1,o1,o1,o1,o1,o1,o1,o1,o1,o1,o1,o1,o1,o1,o1,o1,o1,o1,o0,o0,o0,o0,o0,o0,o0,o0] rfl Bon (gY rfl (decide_eq_false (by omega))) (Ah (v:=va20) rfl) (Bmd 36 [o1,o1,o1,o1,o1,o1,o1,o1,o1,o1,o1,o1,o1,o1,o1,o1,o1,o1,o1,o1,o1,o1,o1,o1,o1,o1,o1,o1,o1,o1,o1,o1,o1,o1,o1,o1,o1,o0,o0,o0,o0,o0,o0,o0] rfl Bon (gY rfl (decide_eq_false (by omega))) (Ah (v:=(iV ((p:Int)))) rfl) (Bmg 37 [o1,o1,o1,o1,o1,o1,o1,o1,o1,o1,o1,o1,o1,o1,o1,o1,o1,o1,o1,o1,o1,o1,o1,o1,o1,o1,o1,o1,o1,o1,o1,o1,o1,o1,o1,o1,o1,o1,o0,o0,o0,o0,o0,o0] rfl Bon (gY rfl (decide_eq_false (by omega))) (Ch p Bho ty3 rfl rm (q:=(p:Int)) rfl rfl ha60) fun v73 r73=>?_))))))))
 have ⟨g74a,g74b⟩:=At.rng r73
 refine Bmd 38 [o1,o1,o1,o1,o1,o1,o1,o1,o1,o1,o1,o1,o1,o1,o1,o1,o1,o1,o1,o1,o1,o1,o1,o1,o1,o1,o1,o1,o1,o1,o1,o1,o1,o1,o1,o1,o1,o1,o1,o0,o0,o0,o0,o0] rfl Bon (gY rfl (decide_eq_false (by omega))) (Bc ty3 rfl r73) (Bmf 39 [o1,o1,o1,o1,o1,o1,o1,o1,o1,o1,o1,o1,o1,o1,o1,o1,o1,o1,o1,o1,o1,o1,o1,o1,o1,o1,o1,o1,o1,o1,o1,o1,o1,o1,o1,o1,o1,o1,o1,o1,o0,o0,o0,o0] rfl (gY rfl (decide_eq_false (by omega))) (Bi (α:=Int) (xs:=[a60]) (vs:=[(iV (a60))]) Bho ty3 zr3 rfl (by decide) (Dk (os:=[.tmp 112]) ⟨rfl,trivial⟩) ⟨(Cv.2 ⟨rfl,by constructor <;> omega⟩),trivial⟩ rfl (by decide) fun k75 cs75 R75=>⟨Bon,?_⟩))
 have G75:Grow ρ48 3 (.slice (some ⟨k75,0,none⟩) 1 1) ([a60]:List Int) [(k75,oC cs75.toArray 3)]:=Bs R75 rfl (by decide)
 refine Lr G75 fun ρ76 l76 r76=>?_
 replace hg:=Glob.mono l76 hg
 replace ro:=Boq l76 ro
 replace r72:=Boq l76 r72
 refine Bmf 40 [o1,o1,o1,o1,o1,o1,o1,o1,o1,o1,o1,o1,o1,o1,o1,o1,o1,o1,o1,o1,o1,o1,o1,o1,o1,o1,o1,o1,o1,o1,o1,o1,o1,o1,o1,o1,o1,o1,o1,o1,o1,o0,o0,o0] rfl (gY rfl (decide_eq_false (by omega))) (Cm (vs:=[v72,(.slice (some ⟨k75,0,none⟩) 1 1)]) (Bct r72 r76 (by simp)) Tryz.func23 rfl rfl ⟨rfl,rfl,trivial⟩ fun v77 ρ77 σ77 hc77=>?_)
 obtain ⟨l77,s77,r77⟩:=hc77
 replace s77:=s77.symm; subst s77
 replace hg:=Glob.mono l77 hg
 replace ro:=Boq l77 ro
 refine ⟨(Boo l76 l77),?_⟩
 have hm78:Cf (Ass a63 (([a60]:List Int))) = 0:=Aui (by omega) (by simp) (fun g hg=>by rw [List.mem_singleton.1 hg]; omega)
 have hx78:Ahr (Ass a63 (([a60]:List Int))) = 0:=by rw [Ays (by omega) (by omega)]; omega
 refine Bmf 41 [o1,o1,o1,o1,o1,o1,o1,o1,o1,o1,o1,o1,o1,o1,o1,o1,o1,o1,o1,o1,o1,o1,o1,o1,o1,o1,o1,o1,o1,o1,o1,o1,o1,o1,o1,o1,o1,o1,o1,o1,o1,o1,o0,o0] rfl (gY rfl (decide_eq_false (by omega))) (Cm (vs:=[v77,(iV (0))]) (Bet hnr r77 hm78 hx78) Tryz.func22 rfl rfl ⟨rfl,rfl,trivial⟩ fun w79 ρ79 σ79 hc79=>?_)
 obtain ⟨l79,s79,hw79⟩:=hc79
 replace s79:=s79.symm; subst s79 hw79
 replace hg:=Glob.mono l79 hg
 replace ro:=Boq l79 ro
 refine ⟨(Boo (Boo l76 l77) l79),?_⟩
 refine Bmd 42 [o1,o1,o1,o1,o1,o1,o1,o1,o1,o1,o1,o1,o1,o1,o1,o1,o1,o1,o1,o1,o1,o1,o1,o1,o1,o1,o1,o1,o1,o1,o1,o1,o1,o1,o1,o1,o1,o1,o1,o1,o1,o1,o1,o0] rfl (Boo (Boo l76 l77) l79) (gY rfl (decide_eq_false (by omega))) (Iy rfl) (Bmd 43 [o1,o1,o1,o1,o1,o1,o1,o1,o1,o1,o1,o1,o1,o1,o1,o1,o1,o1,o1,o1,o1,o1,o1,o1,o1,o1,o1,o1,o1,o1,o1,o1,o1,o1,o1,o1,o1,o1,o1,o1,o1,o1,o1,o1] rfl (Boo (Boo l76 l77) l79) rfl (Bn rfl (decide_eq_false (by omega)) (v:=(.bool (!(true)))) rfl) (Ec rfl (k54 _ _ _ _ ?_)))
 refine Cg rfl (not_t rfl) (Al (k53 _ _ _ _ ?_))
 refine w_q rfl rfl fun K80 k80=>Bmb v48 (Bmb (iV ((p:Int))) (Arw (Ch p Bhy ty65 rfl ro (q:=(p:Int)) rfl rfl ha63) fun v81 r81=>Arw (Ay Span.f_high Bhu rfl rfl ty3 (by decide) rfl r81) fun v82 r82=>?_))
 have ⟨g83a,g83b⟩:=At.rng r82
 refine l_v (Bc ty3 rfl r82) (Bmb (.int .u16 ((more:Int))) (l_v (Acf (p:=(more:Int)) (z:=(more:Int)) Blt Bhv rfl wrR) (l_v (Br rfl rfl (z:=(a63.high + (more:Int))) (Bo (by rfl) (by omega) (by omega))) (l_v (Ajx (p:=1000000) (q:=(a63.high + (more:Int))) rfl rfl) ?_))))
 obtain ⟨u,hu_⟩:∃ z:Int,z = (min 1000000 ((a63.high + (more:Int)))):=⟨_,rfl⟩
 refine l_v (Cp (v:=(.int .i64 u)) ((show _ = Value.int .i64 ((min 1000000 ((a63.high + (more:Int))))) from rfl).trans (by rw [hu_]))) (Asa k80 fun K84 k84=>Bmw (Bmq 0 Arg rfl (Ah (v:=v48) rfl) (Bmq 1 Arh rfl (Ah (v:=(iV ((p:Int)))) rfl) (Bms 2 Aoq rfl (Ch p Bhy ty65 rfl ro (q:=(p:Int)) rfl rfl ha63) fun v85 r85=>Bms 3 Aor rfl (Ax ty65 rfl r85) fun v86 r86=>Bmq 4 Aos rfl (Ah (v:=(iV (u))) rfl) (Bmq 7 [o1,o1,o1,o1,o1,o0,o0,o1,o0,o0,o0,o0,o0,o0,o0,o0,o0,o0,o0] rfl (Ah (v:=(iV (u))) rfl) (Bmq 8 [o1,o1,o1,o1,o1,o0,o0,o1,o1,o0,o0,o0,o0,o0,o0,o0,o0,o0,o0] rfl (Ah (v:=v48) rfl) (Bmq 9 [o1,o1,o1,o1,o1,o0,o0,o1,o1,o1,o0,o0,o0,o0,o0,o0,o0,o0,o0] rfl (Ah (v:=(iV ((p:Int)))) rfl) (Bms 10 [o1,o1,o1,o1,o1,o0,o0,o1,o1,o1,o1,o0,o0,o0,o0,o0,o0,o0,o0] rfl (Ch p Bhy ty65 rfl ro (q:=(p:Int)) rfl rfl ha63) fun v87 r87=>Bms 11 [o1,o1,o1,o1,o1,o0,o0,o1,o1,o1,o1,o1,o0,o0,o0,o0,o0,o0,o0] rfl (Ay Span.f_high Bhu rfl rfl ty3 (by decide) rfl r87) fun v88 r88=>?_))))))))
 have ⟨g89a,g89b⟩:=At.rng r88
 refine Bmq 12 [o1,o1,o1,o1,o1,o0,o0,o1,o1,o1,o1,o1,o1,o0,o0,o0,o0,o0,o0] rfl (Bc ty3 rfl r88) (Bmq 13 [o1,o1,o1,o1,o1,o0,o0,o1,o1,o1,o1,o1,o1,o1,o0,o0,o0,o0,o0] rfl (Ou rfl rfl (z:=(u - a63.high)) (Bo (by rfl) (by omega) (by omega))) (Bmt 5 [o1,o1,o1,o1,o1,o1,o0,o1,o1,o1,o1,o1,o1,o1,o0,o0,o0,o0,o0] rfl (Bi (α:=Int) (xs:=[u]) (vs:=[(iV (u))]) Bho ty3 zr3 rfl (by decide) (Dk (os:=[.tmp 131]) ⟨rfl,trivial⟩) ⟨(Cv.2 ⟨rfl,by constructor <;> omega⟩),trivial⟩ rfl (by decide) fun k90 cs90 R90=>⟨Bon,?_⟩)))
 have G90:Grow ρ79 3 (.slice (some ⟨k90,0,none⟩) 1 1) ([u]:List Int) [(k90,oC cs90.toArray 3)]:=Bs R90 rfl (by decide)
 refine Lr G90 fun ρ91 l91 r91=>?_
 replace hg:=Glob.mono l91 hg
 replace r86:=Boq l91 r86
 refine Bmt 6 Aot rfl (Cm (vs:=[v86,(.slice (some ⟨k90,0,none⟩) 1 1)]) (Bct r86 r91 (by simp)) Tryz.func23 rfl rfl ⟨rfl,rfl,trivial⟩ fun v92 ρ92 σ92 hc92=>?_)
 obtain ⟨l92,s92,r92⟩:=hc92
 replace s92:=s92.symm; subst s92
 replace hg:=Glob.mono l92 hg
 refine ⟨(Boo l91 l92),?_⟩
 have hm93:Cf (Ass a63 (([u]:List Int))) = 0:=Aui (by omega) (by simp) (fun g hg=>by rw [List.mem_singleton.1 hg]; omega)
 have hx93:Ahr (Ass a63 (([u]:List Int))) = (u - a63.high):=by rw [Ays (by omega) (by omega)]; omega
 refine Bmt 14 Aou rfl (Cm (vs:=[v92,(iV ((u - a63.high)))]) (Bet hnr r92 hm93 hx93) Tryz.func22 rfl rfl ⟨rfl,rfl,trivial⟩ fun w94 ρ94 σ94 hc94=>?_)
 obtain ⟨l94,s94,hw94⟩:=hc94
 replace s94:=s94.symm; subst s94 hw94
 replace hg:=Glob.mono l94 hg
 refine ⟨(Boo (Boo l91 l92) l94),?_⟩
 refine Bmd 15 Aov rfl (Boo (Boo l91 l92) l94) rfl (Ah (v:=(.bool (true))) rfl) (Bmf 16 Aow rfl (gY rfl rfl) (Bm (Aud hg hnr) Blx rfl rfl trivial ⟨(Boo (Boo l91 l92) l94),?_⟩))
 refine Bmd 17 Aox rfl (Boo (Boo l91 l92) l94) rfl (Bt rfl rfl (v:=(.bool (true))) rfl) (Bmd 18 Aoy rfl (Boo (Boo l91 l92) l94) rfl (Cp (v:=(.bool (true))) rfl) (Ec rfl (k84 _ _ _ _ ?_)))
 refine Aj (Bok (Boo (Boo (Boo (Boo (Boo (Boo (Boo (Boo (Boo (Boo l2 l20) l33) l35) l48) l76) l77) l79) l91) l92) l94)) (Aq (hret _ _ _ ⟨rfl,rfl,eT (.bool (true)) ?_⟩))
 rfl
end
section
open Go Go.WideShapes
theorem Bfy:Api TStep 176:=⟨by kernel_rfl,fun H enc W fuel cs x h hw=>by
 obtain ⟨xs,n,_,rfl,hcl,hl,hf⟩:=DataW.trod_struct Bht h
 rw [show Tryz.prog.cellsOf 176 = 7 from by kernel_rfl] at hcl
 obtain ⟨a0,r0⟩:=Ask (i:=0) Bht hl hf hw rfl rfl (show _ = 0 from rfl) (Ate Bhv (by kernel_rfl))
 obtain ⟨a1,r1⟩:=Ask (i:=1) Bht hl hf hw rfl rfl (show _ = 1 from rfl) (Auo Bho (by kernel_rfl) (Nat.le_of_ble_eq_true (by kernel_rfl)) (by decide) (Ate Bhv (by kernel_rfl)))
 obtain ⟨a2,r2⟩:=Ask (i:=2) Bht hl hf hw rfl rfl (show _ = 2 from rfl) (Auo Bho (by kernel_rfl) (Nat.le_of_ble_eq_true (by kernel_rfl)) (by decide) (Ate Bhv (by kernel_rfl)))
 obtain ⟨a3,r3⟩:=Ask (i:=3) Bht hl hf hw rfl rfl (show _ = 3 from rfl) Bcv
 obtain ⟨a4,r4⟩:=Ask (i:=4) Bht hl hf hw rfl rfl (show _ = 5 from rfl) Bcv
 refine ⟨⟨a0,a1,a2,a3,a4⟩,?_⟩
 have e0:cs = cs.drop 0:=rfl
 rw [e0]
 exact ⟨(cs.drop 0).take 1,cs.drop 1,(Atg cs 0 1).trans (by rfl),r0,⟨(cs.drop 1).take 1,cs.drop 2,(Atg cs 1 1).trans (by rfl),r1,⟨(cs.drop 2).take 1,cs.drop 3,(Atg cs 2 1).trans (by rfl),r2,⟨(cs.drop 3).take 2,cs.drop 5,(Atg cs 3 2).trans (by rfl),r3,(show Dat.rep (roW W) (cs.drop 5) a4 from by (have:=r4; rw [List.take_of_length_le (by rw [List.length_drop,hcl]; decide)] at this; exact this))⟩⟩⟩⟩⟩
theorem Bfz:Api TScale 180:=⟨by kernel_rfl,fun H enc W fuel cs x h hw=>by
 obtain ⟨xs,n,_,rfl,hcl,hl,hf⟩:=DataW.trod_struct Bjb h
 rw [show Tryz.prog.cellsOf 180 = 3 from by kernel_rfl] at hcl
 obtain ⟨a0,r0⟩:=Ask (i:=0) Bjb hl hf hw rfl rfl (show _ = 0 from rfl) (Ate Bhv (by kernel_rfl))
 obtain ⟨a1,r1⟩:=Ask (i:=1) Bjb hl hf hw rfl rfl (show _ = 1 from rfl) Bcv
 refine ⟨⟨a0,a1⟩,?_⟩
 have e0:cs = cs.drop 0:=rfl
 rw [e0]
 exact ⟨(cs.drop 0).take 1,cs.drop 1,(Atg cs 0 1).trans (by rfl),r0,(show Dat.rep (roW W) (cs.drop 1) a1 from by (have:=r1; rw [List.take_of_length_le (by rw [List.length_drop,hcl]; decide)] at this; exact this))⟩⟩
theorem Bfx:Api TBook 74:=⟨by kernel_rfl,fun H enc W fuel cs x h hw=>by
 obtain ⟨xs,n,_,rfl,hcl,hl,hf⟩:=DataW.trod_struct Bhr h
 rw [show Tryz.prog.cellsOf 74 = 4 from by kernel_rfl] at hcl
 obtain ⟨a0,r0⟩:=Ask (i:=0) Bhr hl hf hw rfl rfl (show _ = 0 from rfl) (Auo Bhs (by kernel_rfl) (Nat.le_of_ble_eq_true (by kernel_rfl)) (by decide) (Bcw Bja (by kernel_rfl)))
 obtain ⟨a1,r1⟩:=Ask (i:=1) Bhr hl hf hw rfl rfl (show _ = 1 from rfl) (Auo Bhs (by kernel_rfl) (Nat.le_of_ble_eq_true (by kernel_rfl)) (by decide) (Bcw Bja (by kernel_rfl)))
 obtain ⟨a2,r2⟩:=Ask (i:=2) Bhr hl hf hw rfl rfl (show _ = 2 from rfl) (Auo Bih (by kernel_rfl) (Nat.le_of_ble_eq_true (by kernel_rfl)) (by decide) Bfy)
 obtain ⟨a3,r3⟩:=Ask (i:=3) Bhr hl hf hw rfl rfl (show _ = 3 from rfl) (Auo Bib (by kernel_rfl) (Nat.le_of_ble_eq_true (by kernel_rfl)) (by decide) Bfz)
 refine ⟨⟨a0,a1,a2,a3⟩,?_⟩
 have e0:cs = cs.drop 0:=rfl
 rw [e0]
 exact ⟨(cs.drop 0).take 1,cs.drop 1,(Atg cs 0 1).trans (by rfl),r0,⟨(cs.drop 1).take 1,cs.drop 2,(Atg cs 1 1).trans (by rfl),r1,⟨(cs.drop 2).take 1,cs.drop 3,(Atg cs 2 1).trans (by rfl),r2,(show Dat.rep (roW W) (cs.drop 3) a3 from by (have:=r3; rw [List.take_of_length_le (by rw [List.length_drop,hcl]; decide)] at this; exact this))⟩⟩⟩⟩
end
section
set_option maxHeartbeats 1000000
open Go Go.WideShapes Go.ChangeShapes Go.RowKit Go.Conc
set_option maxRecDepth 100000
theorem Auz (os:Os) (started:os.Started) (H:Type) (enc:TypeId × Value→H):ReturnsInLeavingWide {} Tryz.checked os 5 .any (Apj H enc Rows.fakeThreadsSpec Tryz.f5) (Rows.fakeThreadsSpec.post enc Tryz.prog Tryz.f5 false true false false):=by
 refine Bfh (r:=8) os started H enc Tryz.func5 rfl rfl (by kernel_rfl) (by decide) (fun ds hd=>?_)
  (ChangeSpec.witness_shaped (enc:=enc) (C:=Tryz.checked) (os:=os) (X:=fun w _=>laidMetH Tryz.prog Bfg w) false (World.doorLaid Tryz.prog 2000 os) #[.agg #[.slice none 0 0,.slice none 0 0,.slice none 0 0,.slice none 0 0],.int .u8 0,.slice none 0 0,.int .u16 0] 8 rfl (World.shaped_of_RefB (by kernel_rfl) (by kernel_rfl)) (by kernel_rfl) (by kernel_rfl) (by kernel_rfl) (Bek os _)) ?_
 ·match ds,hd with
  | [d1,d2,d3,d4],_=>rfl
 ·intro W args ds ps hv hA hw hg
  obtain ⟨hl1,hl2⟩:=Sb hA
  match args,hl1,ds,hl2,hA with
  | [v1,v2,v3,v4],_,[d1,d2,d3,d4],_,⟨p1,q1,h1,⟨p2,q2,h2,⟨p3,q3,h3,⟨p4,q4,h4,_,_⟩,_⟩,_⟩,_⟩ =>
   obtain ⟨b1,k1⟩:=hv 0 74 v1 rfl rfl
   obtain ⟨b2,k2⟩:=hv 1 5 v2 rfl rfl
   obtain ⟨b3,k3⟩:=hv 2 27 v3 rfl rfl
   obtain ⟨b4,k4⟩:=hv 3 75 v4 rfl rfl
   obtain ⟨x1,rx1⟩:=Axc Bfx rfl Bhr k1 h1 (Axt hw (j:=0) rfl rfl)
   obtain ⟨x2,rfl,lx2⟩:=Bgy Blf k2 h2
   obtain ⟨x3,rx3⟩:=Bdi (Auo Bnf (by kernel_rfl) (Nat.le_of_ble_eq_true (by kernel_rfl)) (by decide) (Bgz Blt (by kernel_rfl))) Bnf k3 h3 (Axt hw (j:=2) rfl rfl)
   obtain ⟨x4,rfl,lx4⟩:=Bfn Blt k4 h4
   exact Ayg hg (fun c vs h=>by cases h) rx1 lx2 rx3 lx4
theorem Awi:Rows.FakeThreadsSaid :=
 OpenClaim.holds_of_wide_leaving 5 Tryz.f5 rfl rfl rfl rfl rfl rfl rfl ⟨rfl,rfl,rfl,rfl,rfl⟩ rfl rfl rfl rfl rfl (by kernel_rfl) Tryz.func5 (by kernel_rfl)
  (of_decide_eq_true (by kernel_rfl)) (by unfold Func.isWrapper; first | (rw [if_pos (by decide +kernel)]; kernel_rfl) | (rw [if_neg (by decide +kernel)]; exact ⟨rfl,rfl⟩))
  (fun os started H enc _=>Auz os started H enc)
theorem fakeThreads_holds:Rows.FakeThreadsCardSaid :=
 Beh .later [.funcs,.data] true (true,"64c05d2246e4d379d7c851f58b7b5f5719ef82ed1ca4210b0e7462fe21a2bfab") false Awi (by kernel_rfl) fakeThreads_row_tie rfl ⟨rfl,rfl⟩ (by kernel_rfl) rfl
  (fun f fn hf hfn=>by
   obtain rfl:f = 5:=Option.some.inj ((show Tryz.prog.funcNamed "crocus/crocuslaw08.FakeThreads" = some 5 by kernel_rfl).symm.trans hf) |>.symm
   obtain rfl:fn = Tryz.f5:=(Option.some.inj (Tryz.func5.symm.trans hfn)).symm
   exact ⟨by kernel_rfl,fun j t ht=>by
    have h2:t = 74∨t = 5∨t = 27∨t = 75:=by
     match j,ht with
     | 0,h=>exact .inl (Option.some.inj h).symm
     | 1,h=>exact .inr (.inl (Option.some.inj h).symm)
     | 2,h=>exact .inr (.inr (.inl (Option.some.inj h).symm))
     | 3,h=>exact .inr (.inr (.inr ((Option.some.inj h).symm)))
    rcases h2 with rfl | rfl | rfl | rfl
    ·exact (show Tryz.prog.wantsStandIn 74 = false by kernel_rfl)
    ·exact (show Tryz.prog.wantsStandIn 5 = false by kernel_rfl)
    ·exact (show Tryz.prog.wantsStandIn 27 = false by kernel_rfl)
    ·exact (show Tryz.prog.wantsStandIn 75 = false by kernel_rfl)⟩)
  (by kernel_rfl)
end
end Go.Proofs.YtphgjjmlnkgghaaGreatDoor
