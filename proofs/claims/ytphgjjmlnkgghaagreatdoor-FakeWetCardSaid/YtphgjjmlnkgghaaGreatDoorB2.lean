/- Part 2 of what all laws of layer 8 need: a logic of programs that start goroutines, and what the functions yield. -/
import Derived.Test.YtphgjjmlnkgghaaGreatDoorB1
import Derived.Below
import Derived.Conc.CrowdBase
import Derived.Conc.CrowdComm
set_option linter.unusedVariables false
set_option linter.unusedSimpArgs false
namespace Go.Proofs.YtphgjjmlnkgghaaGreatDoor
set_option maxHeartbeats 1000000
open Go
set_option maxRecDepth 100000 in
theorem Ahc {mn:Bool} {X:Frame→List Frame→Ro→Own→Cy→Prop} {ρ:Ro} {σ:Own} {x:Span} {vx:Value} (rx:Val ρ vx x):CallsH (CX mn X) 149 #[vx] ρ σ (fun w ρ' σ'=>ρ' = ρ∧σ' = σ∧w = (.bool (!Ef x 0 1000))):=by
 refine Bh (n:=6) (args:=[vx]) [2] Tryz.func149 rfl rfl rfl rfl fun Q hret hnor=>?_
 refine w_q rfl rfl fun K1 k1=>?_
 refine Arv (Eb (v:=vx) rfl fun k2=>?_)
 refine Bb (a:=x) rx fun ρ2 l2 r2=>?_
 refine l_v (Cp (v:=(.bool (false))) rfl) ?_
 refine Arx rfl rfl k1 fun K3 k3=>?_
 refine Arw (Ax Mx rfl r2) fun v4 r4=>?_
 refine Arv (Bm (Yc r4) Tryz.func150 rfl rfl ⟨rfl,rfl,rfl,trivial⟩ ?_)
 refine l_v (Iy rfl) ?_
 refine l_v (Cp (v:=(.bool (!(Ef x 0 1000)))) rfl) ?_
 refine l_k k3 ?_
 refine Aj (Asf l2) ?_
 refine Aq ?_
 refine hret _ _ _ ⟨rfl,rfl,Eq.trans (b:=(.bool (!(Ef x 0 1000)))) rfl ?_⟩
 rfl
set_option maxRecDepth 100000 in
theorem Pq {mn:Bool} {X:Frame→List Frame→Ro→Own→Cy→Prop} {ρ:Ro} {σ:Own} {l:List Span} {vl:Value} {many:Int} (rl:Val ρ vl l):CallsH (CX mn X) 110 #[vl,(iV (many))] ρ σ (fun w ρ' σ'=>ρ' = ρ∧σ' = σ∧w = (iV (Fm l many))):=by
 refine Bh (n:=11) (args:=[vl,(iV (many))]) [4] Tryz.func110 rfl rfl rfl rfl fun Q hret hnor=>?_
 refine w_q rfl rfl fun K1 k1=>?_
 refine l_v (Cp (v:=(iV (0))) rfl) ?_
 refine Ary rfl rfl k1 fun K2 K3 k2 k3=>?_
 refine l_v (Ah (v:=vl) rfl) ?_
 have g4:=Val.len rl
 refine l_v (Ci (el:=41) Tryz.underlying26 rfl rl) ?_
 refine l_v (Ah (v:=(iV (many))) rfl) ?_
 refine l_v (Dg rfl rfl) ?_
 refine l_k k3 ?_
 refine As (t:=((l.length:Nat):Int) != many) rfl (fun b5=>?_) (fun b5=>?_)
 ·have q5:=Ls b5
  refine w_q rfl rfl fun K6 k6=>?_
  refine l_v (Cp (v:=(iV (2))) rfl) ?_
  refine l_k k6 ?_
  refine Aq ?_
  refine hret _ _ _ ⟨rfl,rfl,Eq.trans (b:=(iV (2))) rfl ?_⟩
  rw [Fm,if_neg q5]
 have q5:=Jh b5
 refine Al ?_
 apply k2
 refine Asb rfl rfl fun K7 K8 k7 k8=>?_
 refine l_v (Ah (v:=vl) rfl) ?_
 refine Arv (Bm (Tb rl (⟨149,Tryz.f149,[],rfl,Tryz.func149,rfl,rfl,fun mn X ρ σ v x hv=>Ahc hv⟩:Su (.func (.func 149) #[] #[]) (fun x:Span=>!Ef x 0 1000))) Tryz.func103 rfl rfl ⟨rfl,rfl,trivial⟩ ?_)
 refine l_k k8 ?_
 refine As (t:=l.any (fun x:Span=>!Ef x 0 1000)) rfl (fun b9=>?_) (fun b9=>?_)
 ·refine w_q rfl rfl fun K10 k10=>?_
  refine l_v (Cp (v:=(iV (1))) rfl) ?_
  refine l_k k10 ?_
  refine Aq ?_
  refine hret _ _ _ ⟨rfl,rfl,Eq.trans (b:=(iV (1))) rfl ?_⟩
  rw [We (by omega),b9]; rfl
 refine Al ?_
 apply k7
 refine w_q rfl rfl fun K11 k11=>?_
 refine l_v (Cp (v:=(iV (0))) rfl) ?_
 refine l_k k11 ?_
 refine Aq ?_
 refine hret _ _ _ ⟨rfl,rfl,Eq.trans (b:=(iV (0))) rfl ?_⟩
 rw [We (by omega),b9]; rfl
set_option maxRecDepth 100000 in
theorem Vc {mn:Bool} {X:Frame→List Frame→Ro→Own→Cy→Prop} {ρ:Ro} {σ:Own} {m:Market} {vm:Value} (rm:Val ρ vm m):CallsH (CX mn X) 136 #[vm] ρ σ (fun w ρ' σ'=>ρ' = ρ∧σ' = σ∧w = (iV (Ew m))):=by
 refine Bh (n:=51) (args:=[vm]) [2] Tryz.func136 rfl rfl rfl rfl fun Q hret hnor=>?_
 refine w_q rfl rfl fun K1 k1=>?_
 refine Arv (Eb (v:=vm) rfl fun k2=>?_)
 refine Bb (a:=m) rm fun ρ2 l2 r2=>?_
 refine l_v (Cp (v:=(iV (0))) rfl) ?_
 refine Ary rfl rfl k1 fun K3 K4 k3 k4=>?_
 refine Arw (Ay Market.f_fields Tryz.underlying36 rfl rfl Se (by decide) rfl r2) fun v5 r5=>?_
 refine Arw (Ax Se rfl r5) fun v6 r6=>?_
 have g7:=Val.len r6
 refine l_v (Ci (el:=47) Tryz.underlying33 rfl r6) ?_
 refine l_v (Gl rfl rfl) ?_
 refine l_k k4 ?_
 refine As (t:=decide (((m.fields.length:Nat):Int) > 6)) rfl (fun b8=>?_) (fun b8=>?_)
 ·have q8:=of_decide_eq_true b8
  refine w_q rfl rfl fun K9 k9=>?_
  refine l_v (Cp (v:=(iV (2))) rfl) ?_
  refine l_k k9 ?_
  refine Aj (Asf l2) ?_
  refine Aq ?_
  refine hret _ _ _ ⟨rfl,rfl,Eq.trans (b:=(iV (2))) rfl ?_⟩
  rw [Ew,if_pos (by omega)]
 have q8:=of_decide_eq_false b8
 refine Al ?_
 apply k3
 refine w_q rfl rfl fun K10 k10=>?_
 refine Arv (Oh fun k11=>?_)
 refine l_v (Cp (v:=(.map (some k11))) rfl) ?_
 refine Ary rfl rfl k10 fun K12 K13 k12 k13=>?_
 refine Arw (Ay Market.f_fields Tryz.underlying36 rfl rfl Se (by decide) rfl r2) fun v14 r14=>?_
 refine Arw (Ax Se rfl r14) fun v15 r15=>?_
 have g16:=Val.len r15
 refine l_v (Ci (el:=47) Tryz.underlying33 rfl r15) ?_
 refine l_v (Ah (v:=(iV (0))) rfl) ?_
 refine l_k k13 ?_
 refine Ao ?_
 refine Cc (fun mm ee dd ρ' σ'=>∃ (i:Nat) (es17_3:Array MapEntry) (ck17_3:Nat),(m.fields.length - i) = mm∧[] = dd∧ρ2 = ρ'∧((k11,Res.obj (Obj.map es17_3 ck17_3)) :: σ) = σ'∧ee 1 = (.pointer (some ⟨k2,0,none⟩))∧ee 14 = v15∧ee 15 = (iV (((m.fields.length:Nat):Int)))∧ee 3 = (.map (some k11))∧ee 16 = (iV ((i:Int)))∧(i ≤ m.fields.length)∧(∀ j,j < i→fieldAt m j = 0)∧Mu es17_3 (inL ((m.fields.map FField.name).take i))∧True) (m:=_) ⟨0,#[],0,rfl,rfl,rfl,rfl,rfl,rfl,rfl,rfl,rfl,(Nat.zero_le _),(fun j h=>absurd h (Nat.not_lt_zero _)),(Rl (fun k=>by simp [inL]) Uh),trivial⟩ ?_
 rintro m17 e17 _ _ _ ⟨i,es17_3,ck17_3,rfl,rfl,rfl,rfl,h17_1,h17_14,h17_15,h17_3,h17_16,p17_0,p17_1,MS17_3,_⟩
 refine w_q rfl rfl fun K18 k18=>?_
 refine l_v (Da h17_16 h17_15) ?_
 refine Asa k18 fun K19 k19=>?_
 refine As (t:=decide ((i:Int) < ((m.fields.length:Nat):Int))) rfl (fun b20=>?_) (fun b20=>?_)
 ·have q20:=of_decide_eq_true b20
  refine Al ?_
  apply k19
  refine Ai fun K21 k21=>?_
  refine Ao ?_
  refine w_q rfl rfl fun K22 k22=>?_
  obtain ⟨a24,ha24⟩:=Ed (xs:=m.fields) (i:=i) (by omega)
  refine Arw (Ch i Tryz.underlying33 Lo h17_14 r15 (q:=(i:Int)) h17_16 rfl ha24) fun v23 r23=>?_
  refine Arw (Ax Lo rfl r23) fun v25 r25=>?_
  refine Arv (Ct Xu fun k26=>?_)
  refine Cx rfl (Dv (v:=v25) (a:=a24) (c:=Aah) Lo rfl rfl r25 rfl ?_)
  refine Bb (a:=a24) r25 fun ρ27 l27 r27=>?_
  replace r2:=At.mono l27 r2
  refine Ary rfl rfl k22 fun K28 K29 k28 k29=>?_
  refine l_v (Ah (v:=(.map (some k11))) h17_3) ?_
  refine Arw (Ay FField.f_name Tryz.underlying47 rfl rfl ty9 (by decide) rfl r27) fun v30 r30=>?_
  have g31:=At.slen r30
  refine l_v (Pk ty9 rfl r30) ?_
  refine Arv (Cm (vs:=[(.map (some k11)),(.string (a24.name))]) (Wx (i:=0) MS17_3 rfl (by omega)) Tryz.func170 rfl rfl ⟨rfl,rfl,trivial⟩ fun w32 ρ32 σ32 hc32=>?_)
  obtain ⟨hr32,hc32⟩:=hc32
  replace hr32:=hr32.symm; subst hr32
  rcases hc32 with ⟨rfl,hn32,rfl⟩ | ⟨rfl,hn32,hp32,rfl⟩ | ⟨rfl,hn32,hp32,es32,ck32,S32,rfl⟩
  ·refine l_v (Cp (v:=(iV (4))) rfl) ?_
   refine Arx rfl rfl k29 fun K33 k33=>?_
   refine l_v (Ah (v:=(iV (4))) rfl) ?_
   refine l_v (Dg rfl rfl) ?_
   refine l_k k33 ?_
   refine Co rfl rfl ?_
   refine w_q rfl rfl fun K34 k34=>?_
   refine l_v (Ah (v:=(iV (4))) rfl) ?_
   refine l_v (Cp (v:=(iV (4))) rfl) ?_
   refine l_k k34 ?_
   refine Aj Ghost.drop ?_
   refine Aj (Asf (Asi l2 l27)) ?_
   refine Aq ?_
   refine hret _ _ _ ⟨rfl,rfl,Eq.trans (b:=(iV (4))) rfl ?_⟩
   have hf:fieldAt m i = 4:=by simp [fieldAt,ha24,hn32]
   rw [Ew,if_neg (by omega),Db p17_1 (by omega) hf (by omega)]
  ·refine l_v (Cp (v:=(iV (5))) rfl) ?_
   refine Arx rfl rfl k29 fun K35 k35=>?_
   refine l_v (Ah (v:=(iV (5))) rfl) ?_
   refine l_v (Dg rfl rfl) ?_
   refine l_k k35 ?_
   refine Co rfl rfl ?_
   refine w_q rfl rfl fun K36 k36=>?_
   refine l_v (Ah (v:=(iV (5))) rfl) ?_
   refine l_v (Cp (v:=(iV (5))) rfl) ?_
   refine l_k k36 ?_
   refine Aj Ghost.drop ?_
   refine Aj (Asf (Asi l2 l27)) ?_
   refine Aq ?_
   refine hret _ _ _ ⟨rfl,rfl,Eq.trans (b:=(iV (5))) rfl ?_⟩
   have hf:fieldAt m i = 5:=by simp [fieldAt,ha24,hn32,Vp.1 hp32]
   rw [Ew,if_neg (by omega),Db p17_1 (by omega) hf (by omega)]
  refine l_v (Cp (v:=(iV (0))) rfl) ?_
  refine Arx rfl rfl k29 fun K37 k37=>?_
  refine l_v (Ah (v:=(iV (0))) rfl) ?_
  refine l_v (Dg rfl rfl) ?_
  refine l_k k37 ?_
  refine Cg rfl rfl ?_
  refine Al ?_
  apply k28
  refine Ai fun K38 k38=>?_
  refine Ao ?_
  refine w_q rfl rfl fun K39 k39=>?_
  refine Arw (Ay FField.f_house Tryz.underlying47 rfl rfl ty3 (by decide) rfl r27) fun v40 r40=>?_
  have ⟨g41a,g41b⟩:=At.rng r40
  refine l_v (Bc ty3 rfl r40) ?_
  refine Arw (Ay Market.f_houses Tryz.underlying36 rfl rfl Hw (by decide) h17_1 r2) fun v42 r42=>?_
  refine Arw (Ax Hw rfl r42) fun v43 r43=>?_
  have g44:=Val.len r43
  refine l_v (Ci (el:=9) Tryz.underlying32 rfl r43) ?_
  refine l_v (Ou rfl rfl (z:=(((m.houses.length:Nat):Int) - 1)) (Bo (by first | rfl | omega | (push_cast; rfl)) (by omega) (by omega))) ?_
  refine Arv (Bm (Jl) Tryz.func117 rfl rfl ⟨rfl,rfl,rfl,trivial⟩ ?_)
  refine l_v (Iy rfl) ?_
  refine l_v (Cp (v:=(.bool (!(inR a24.house 0 ((((m.houses.length:Nat):Int) - 1)))))) rfl) ?_
  refine l_k k39 ?_
  refine As (t:=!(inR a24.house 0 ((((m.houses.length:Nat):Int) - 1)))) rfl (fun b45=>?_) (fun b45=>?_)
  ·have b46:=not_eq_t b45
   have q46:=Tr.1 b46
   refine w_q rfl rfl fun K47 k47=>?_
   refine l_v (Cp (v:=(iV (6))) rfl) ?_
   refine l_k k47 ?_
   refine Aj Ghost.drop ?_
   refine Aj (Asf (Asi l2 l27)) ?_
   refine Aq ?_
   refine hret _ _ _ ⟨rfl,rfl,Eq.trans (b:=(iV (6))) rfl ?_⟩
   have hf:fieldAt m i = 6:=by simp [fieldAt,ha24,hn32,Ml hp32,b8,b20,b45,b46,q8,q20,q46]
   rw [Ew,if_neg (by omega),Db p17_1 (by omega) hf (by omega)]
  have b48:=not_eq_f b45
  have q48:=Fz.1 b48
  refine w_q rfl rfl fun K49 k49=>?_
  refine Arw (Ay FField.f_grows Tryz.underlying47 rfl rfl Mx (by decide) rfl r27) fun v50 r50=>?_
  refine Arw (Ax Mx rfl r50) fun v51 r51=>?_
  refine Arv (Bm (Yc r51) Tryz.func150 rfl rfl ⟨rfl,rfl,rfl,trivial⟩ ?_)
  refine l_v (Iy rfl) ?_
  refine l_v (Cp (v:=(.bool (!(Ef a24.grows 0 1000000)))) rfl) ?_
  refine l_k k49 ?_
  refine As (t:=!(Ef a24.grows 0 1000000)) rfl (fun b52=>?_) (fun b52=>?_)
  ·have b53:=not_eq_t b52
   refine w_q rfl rfl fun K54 k54=>?_
   refine l_v (Cp (v:=(iV (1))) rfl) ?_
   refine l_k k54 ?_
   refine Aj Ghost.drop ?_
   refine Aj (Asf (Asi l2 l27)) ?_
   refine Aq ?_
   refine hret _ _ _ ⟨rfl,rfl,Eq.trans (b:=(iV (1))) rfl ?_⟩
   have hf:fieldAt m i = 1:=by simp [fieldAt,ha24,hn32,Ml hp32,b8,b20,b45,b48,b52,b53,q8,q20,q48]
   rw [Ew,if_neg (by omega),Db p17_1 (by omega) hf (by omega)]
  have b55:=not_eq_f b52
  refine Al ?_
  apply k38
  refine w_q rfl rfl fun K56 k56=>?_
  refine Arw (Ay FField.f_marks Tryz.underlying47 rfl rfl Uo (by decide) rfl r27) fun v57 r57=>?_
  refine Arw (Ax Uo rfl r57) fun v58 r58=>?_
  refine Arw (Ay Market.f_marks Tryz.underlying36 rfl rfl Hw (by decide) h17_1 r2) fun v59 r59=>?_
  refine Arw (Ax Hw rfl r59) fun v60 r60=>?_
  have g61:=Val.len r60
  refine l_v (Ci (el:=9) Tryz.underlying32 rfl r60) ?_
  refine Arv (Bm (Pq r58) Tryz.func110 rfl rfl ⟨rfl,rfl,trivial⟩ ?_)
  refine l_v (Cp (v:=(iV (Fm a24.marks (((m.marks.length:Nat):Int))))) rfl) ?_
  refine Arx rfl rfl k56 fun K62 k62=>?_
  refine l_v (Ah (v:=(iV (Fm a24.marks (((m.marks.length:Nat):Int))))) rfl) ?_
  refine l_v (Dg rfl rfl) ?_
  refine l_k k62 ?_
  refine As (t:=Fm a24.marks (((m.marks.length:Nat):Int)) != 0) rfl (fun b63=>?_) (fun b63=>?_)
  ·have q63:=Ls b63
   refine w_q rfl rfl fun K64 k64=>?_
   refine l_v (Ah (v:=(iV (Fm a24.marks (((m.marks.length:Nat):Int))))) rfl) ?_
   refine l_v (Cp (v:=(iV (Fm a24.marks (((m.marks.length:Nat):Int))))) rfl) ?_
   refine l_k k64 ?_
   refine Aj Ghost.drop ?_
   refine Aj (Asf (Asi l2 l27)) ?_
   refine Aq ?_
   refine hret _ _ _ ⟨rfl,rfl,Eq.trans (b:=(iV (Fm a24.marks (((m.marks.length:Nat):Int))))) rfl ?_⟩
   have hf:fieldAt m i = Fm a24.marks (((m.marks.length:Nat):Int)):=by simp [fieldAt,ha24,hn32,Ml hp32,b8,b20,b45,b48,b52,b55,b63,q8,q20,q48,q63]
   rw [Ew,if_neg (by omega),Db p17_1 (by omega) hf q63]
  have q63:=Jh b63
  refine Al ?_
  apply k21
  refine Ag rfl rfl ?_
  refine l_v (Br h17_16 rfl (z:=(((i + 1):Nat):Int)) (Bo (by first | rfl | omega | (push_cast; rfl)) (by omega) (by omega))) ?_
  refine l_v (Ah (v:=(iV ((((i + 1):Nat):Int)))) rfl) ?_
  refine Bj (Asf l27) ?_
  apply Ac
  refine ⟨_,?_,((i + 1)),es32,ck32,rfl,rfl,rfl,rfl,h17_1,h17_14,h17_15,h17_3,rfl,(by omega),(Eg p17_1 (by simp [fieldAt,ha24,hn32,Ml hp32,b8,b20,b45,b48,b52,b55,b63,q8,q20,q48,q63])),(Rl (Tq (by rw [List.getElem?_map,ha24]; rfl)) S32),trivial⟩
  omega
 have q20:=of_decide_eq_false b20
 refine Bx ?_
 apply k12
 refine w_q rfl rfl fun K65 k65=>?_
 refine l_v (Cp (v:=(iV (0))) rfl) ?_
 refine l_k k65 ?_
 refine Aj Ghost.drop ?_
 refine Aj (Asf l2) ?_
 refine Aq ?_
 refine hret _ _ _ ⟨rfl,rfl,Eq.trans (b:=(iV (0))) rfl ?_⟩
 rw [Ew,if_neg (by omega),Fb fun j hj=>p17_1 j (by omega)]
set_option maxRecDepth 100000 in
theorem Wy {mn:Bool} {X:Frame→List Frame→Ro→Own→Cy→Prop} {ρ:Ro} {σ:Own} {m:Market} {vm:Value} (rm:Val ρ vm m):CallsH (CX mn X) 137 #[vm] ρ σ (fun w ρ' σ'=>ρ' = ρ∧σ' = σ∧w = (iV (Jc m))):=by
 refine Bh (n:=51) (args:=[vm]) [2] Tryz.func137 rfl rfl rfl rfl fun Q hret hnor=>?_
 refine w_q rfl rfl fun K1 k1=>?_
 refine Arv (Eb (v:=vm) rfl fun k2=>?_)
 refine Bb (a:=m) rm fun ρ2 l2 r2=>?_
 refine l_v (Cp (v:=(iV (0))) rfl) ?_
 refine Ary rfl rfl k1 fun K3 K4 k3 k4=>?_
 refine Arw (Ay Market.f_sales Tryz.underlying36 rfl rfl Qn (by decide) rfl r2) fun v5 r5=>?_
 refine Arw (Ax Qn rfl r5) fun v6 r6=>?_
 have g7:=Val.len r6
 refine l_v (Ci (el:=146) Tryz.underlying34 rfl r6) ?_
 refine l_v (Gl rfl rfl) ?_
 refine l_k k4 ?_
 refine As (t:=decide (((m.sales.length:Nat):Int) > 8)) rfl (fun b8=>?_) (fun b8=>?_)
 ·have q8:=of_decide_eq_true b8
  refine w_q rfl rfl fun K9 k9=>?_
  refine l_v (Cp (v:=(iV (2))) rfl) ?_
  refine l_k k9 ?_
  refine Aj (Asf l2) ?_
  refine Aq ?_
  refine hret _ _ _ ⟨rfl,rfl,Eq.trans (b:=(iV (2))) rfl ?_⟩
  rw [Jc,if_pos (by omega)]
 have q8:=of_decide_eq_false b8
 refine Al ?_
 apply k3
 refine Asb rfl rfl fun K10 K11 k10 k11=>?_
 refine Arw (Ay Market.f_sales Tryz.underlying36 rfl rfl Qn (by decide) rfl r2) fun v12 r12=>?_
 refine Arw (Ax Qn rfl r12) fun v13 r13=>?_
 have g14:=Val.len r13
 refine l_v (Ci (el:=146) Tryz.underlying34 rfl r13) ?_
 refine l_v (Ah (v:=(iV (0))) rfl) ?_
 refine l_k k11 ?_
 refine Ao ?_
 refine Cc (fun mm ee dd ρ' σ'=>∃ (i:Nat),(m.sales.length - i) = mm∧[] = dd∧ρ2 = ρ'∧σ = σ'∧ee 1 = (.pointer (some ⟨k2,0,none⟩))∧ee 13 = v13∧ee 14 = (iV (((m.sales.length:Nat):Int)))∧ee 15 = (iV ((i:Int)))∧(i ≤ m.sales.length)∧(∀ j,j < i→Jb m j = 0)∧True) (m:=_) ⟨0,rfl,rfl,rfl,rfl,rfl,rfl,rfl,rfl,(Nat.zero_le _),(fun j h=>absurd h (Nat.not_lt_zero _)),trivial⟩ ?_
 rintro m15 e15 _ _ _ ⟨i,rfl,rfl,rfl,rfl,h15_1,h15_13,h15_14,h15_15,p15_0,p15_1,_⟩
 refine w_q rfl rfl fun K16 k16=>?_
 refine l_v (Da h15_15 h15_14) ?_
 refine Asa k16 fun K17 k17=>?_
 refine As (t:=decide ((i:Int) < ((m.sales.length:Nat):Int))) rfl (fun b18=>?_) (fun b18=>?_)
 ·have q18:=of_decide_eq_true b18
  refine Al ?_
  apply k17
  refine Ai fun K19 k19=>?_
  refine Ao ?_
  refine w_q rfl rfl fun K20 k20=>?_
  obtain ⟨a22,ha22⟩:=Ed (xs:=m.sales) (i:=i) (by omega)
  refine Arw (Ch i Tryz.underlying34 Up h15_13 r13 (q:=(i:Int)) h15_15 rfl ha22) fun v21 r21=>?_
  refine Arw (Ax Up rfl r21) fun v23 r23=>?_
  refine Arv (Ct Agb fun k24=>?_)
  refine Cx rfl (Dv (v:=v23) (a:=a22) (c:=Akd) Up rfl rfl r23 rfl ?_)
  refine Bb (a:=a22) r23 fun ρ25 l25 r25=>?_
  replace r2:=At.mono l25 r2
  refine Asa k20 fun K26 k26=>?_
  refine Ao ?_
  refine w_q rfl rfl fun K27 k27=>?_
  refine Arw (Ay Sale.f_grams Tryz.underlying146 rfl rfl ty3 (by decide) rfl r25) fun v28 r28=>?_
  have ⟨g29a,g29b⟩:=At.rng r28
  refine l_v (Bc ty3 rfl r28) ?_
  refine Arv (Bm (Jl) Tryz.func117 rfl rfl ⟨rfl,rfl,rfl,trivial⟩ ?_)
  refine l_v (Iy rfl) ?_
  refine l_v (Cp (v:=(.bool (!(inR a22.grams 0 1000000)))) rfl) ?_
  refine l_k k27 ?_
  refine As (t:=!(inR a22.grams 0 1000000)) rfl (fun b30=>?_) (fun b30=>?_)
  ·have b31:=not_eq_t b30
   have q31:=Tr.1 b31
   refine w_q rfl rfl fun K32 k32=>?_
   refine l_v (Cp (v:=(iV (1))) rfl) ?_
   refine l_k k32 ?_
   refine Aj (Asf (Asi l2 l25)) ?_
   refine Aq ?_
   refine hret _ _ _ ⟨rfl,rfl,Eq.trans (b:=(iV (1))) rfl ?_⟩
   have hf:Jb m i = 1:=by simp [Jb,ha22,b8,b18,b30,b31,q8,q18,q31]
   rw [Jc,if_neg (by omega),Db p15_1 (by omega) hf (by omega)]
  have b33:=not_eq_f b30
  have q33:=Fz.1 b33
  refine w_q rfl rfl fun K34 k34=>?_
  refine Arw (Ay Sale.f_sellers Tryz.underlying146 rfl rfl Vh (by decide) rfl r25) fun v35 r35=>?_
  refine Arw (Ax Vh rfl r35) fun v36 r36=>?_
  have g37:=Val.len r36
  refine l_v (Ci (el:=3) Tryz.underlying49 rfl r36) ?_
  refine l_v (Ek rfl rfl) ?_
  refine l_v (Cp (v:=(.bool (((a22.sellers.length:Nat):Int) == 0))) rfl) ?_
  refine l_k k34 ?_
  refine As (t:=((a22.sellers.length:Nat):Int) == 0) rfl (fun b38=>?_) (fun b38=>?_)
  ·have q38:=Jr b38
   refine w_q rfl rfl fun K39 k39=>?_
   refine l_v (Cp (v:=(iV (2))) rfl) ?_
   refine l_k k39 ?_
   refine Aj (Asf (Asi l2 l25)) ?_
   refine Aq ?_
   refine hret _ _ _ ⟨rfl,rfl,Eq.trans (b:=(iV (2))) rfl ?_⟩
   have hf:Jb m i = 2:=by simp [Jb,ha22,b8,b18,b30,b33,b38,q8,q18,q33,q38]
   rw [Jc,if_neg (by omega),Db p15_1 (by omega) hf (by omega)]
  have q38:=Jq b38
  refine Al ?_
  apply k26
  refine w_q rfl rfl fun K40 k40=>?_
  refine l_v (Cp (v:=(iV ((-1)))) rfl) ?_
  refine Arx rfl rfl k40 fun K41 k41=>?_
  refine Arw (Ay Sale.f_sellers Tryz.underlying146 rfl rfl Vh (by decide) rfl r25) fun v42 r42=>?_
  refine Arw (Ax Vh rfl r42) fun v43 r43=>?_
  have g44:=Val.len r43
  refine l_v (Ci (el:=3) Tryz.underlying49 rfl r43) ?_
  refine l_v (Ah (v:=(iV (0))) rfl) ?_
  refine l_k k41 ?_
  refine Ao ?_
  refine Cc (fun mm ee dd ρ' σ'=>∃ (q:Nat) (la:Int),(a22.sellers.length - q) = mm∧[] = dd∧ρ25 = ρ'∧σ = σ'∧ee 1 = (.pointer (some ⟨k2,0,none⟩))∧ee 13 = v13∧ee 14 = (iV (((m.sales.length:Nat):Int)))∧ee 15 = (iV ((i:Int)))∧ee 30 = v43∧ee 31 = (iV (((a22.sellers.length:Nat):Int)))∧ee 5 = (iV (la))∧ee 32 = (iV ((q:Int)))∧(q ≤ a22.sellers.length)∧(∀ j,j < q→Gt m a22 j = 0)∧(Abg a22.sellers q la)∧(∀ j h,j < q→a22.sellers[j]? = some h→0 ≤ h)∧True) (m:=_) ⟨0,(-1),rfl,rfl,rfl,rfl,h15_1,h15_13,h15_14,h15_15,rfl,rfl,rfl,rfl,(Nat.zero_le _),(fun j h=>absurd h (Nat.not_lt_zero _)),(.inl ⟨rfl,rfl⟩),(fun j h hj=>absurd hj (Nat.not_lt_zero _)),trivial⟩ ?_
  rintro m45 e45 _ _ _ ⟨q,la,rfl,rfl,rfl,rfl,h45_1,h45_13,h45_14,h45_15,h45_30,h45_31,h45_5,h45_32,p45_0,p45_1,p45_2,p45_3,_⟩
  refine w_q rfl rfl fun K46 k46=>?_
  refine l_v (Da h45_32 h45_31) ?_
  refine Asa k46 fun K47 k47=>?_
  refine As (t:=decide ((q:Int) < ((a22.sellers.length:Nat):Int))) rfl (fun b48=>?_) (fun b48=>?_)
  ·have q48:=of_decide_eq_true b48
   refine Al ?_
   apply k47
   refine Ai fun K49 k49=>?_
   refine Ao ?_
   refine w_q rfl rfl fun K50 k50=>?_
   obtain ⟨a52,ha52⟩:=Ed (xs:=a22.sellers) (i:=q) (by omega)
   refine Arw (Ch q Tryz.underlying49 ty3 h45_30 r43 (q:=(q:Int)) h45_32 rfl ha52) fun v51 r51=>?_
   have ⟨g53a,g53b⟩:=At.rng r51
   refine l_v (Bc ty3 rfl r51) ?_
   refine l_v (Cp (v:=(iV (a52))) rfl) ?_
   refine Asa k50 fun K54 k54=>?_
   refine Ao ?_
   refine w_q rfl rfl fun K55 k55=>?_
   refine l_v (Ah (v:=(iV (a52))) rfl) ?_
   refine Arw (Ay Market.f_houses Tryz.underlying36 rfl rfl Hw (by decide) h45_1 r2) fun v56 r56=>?_
   refine Arw (Ax Hw rfl r56) fun v57 r57=>?_
   have g58:=Val.len r57
   refine l_v (Ci (el:=9) Tryz.underlying32 rfl r57) ?_
   refine l_v (Ou rfl rfl (z:=(((m.houses.length:Nat):Int) - 1)) (Bo (by first | rfl | omega | (push_cast; rfl)) (by omega) (by omega))) ?_
   refine Arv (Bm (Jl) Tryz.func117 rfl rfl ⟨rfl,rfl,rfl,trivial⟩ ?_)
   refine l_v (Iy rfl) ?_
   refine l_v (Cp (v:=(.bool (!(inR a52 0 ((((m.houses.length:Nat):Int) - 1)))))) rfl) ?_
   refine l_k k55 ?_
   refine As (t:=!(inR a52 0 ((((m.houses.length:Nat):Int) - 1)))) rfl (fun b59=>?_) (fun b59=>?_)
   ·have b60:=not_eq_t b59
    have q60:=Tr.1 b60
    refine w_q rfl rfl fun K61 k61=>?_
    refine l_v (Cp (v:=(iV (6))) rfl) ?_
    refine l_k k61 ?_
    refine Aj (Asf (Asi l2 l25)) ?_
    refine Aq ?_
    refine hret _ _ _ ⟨rfl,rfl,Eq.trans (b:=(iV (6))) rfl ?_⟩
    have hq:Gt m a22 q = 6:=by
     simp [Gt,ha52,b8,b18,b30,b33,b38,b48,b59,b60,q8,q18,q33,q38,q48,q60]
    have hf:Jb m i = 6:=by simp only [Jb,ha22,b8,b18,b30,b33,b38,b48,b59,b60,if_true]; rw [if_neg (by omega),Db p45_1 (by omega) hq (by omega)]
    rw [Jc,if_neg (by omega),Db p15_1 (by omega) hf (by omega)]
   have b62:=not_eq_f b59
   have q62:=Fz.1 b62
   refine w_q rfl rfl fun K63 k63=>?_
   refine l_v (Ah (v:=(iV (a52))) rfl) ?_
   refine l_v (Ah (v:=(iV (la))) h45_5) ?_
   refine l_v (Uz rfl rfl) ?_
   refine l_v (Cp (v:=(.bool (decide (a52 ≤ la)))) rfl) ?_
   refine l_k k63 ?_
   refine As (t:=decide (a52 ≤ la)) rfl (fun b64=>?_) (fun b64=>?_)
   ·have q64:=of_decide_eq_true b64
    refine w_q rfl rfl fun K65 k65=>?_
    refine l_v (Cp (v:=(iV (7))) rfl) ?_
    refine l_k k65 ?_
    refine Aj (Asf (Asi l2 l25)) ?_
    refine Aq ?_
    refine hret _ _ _ ⟨rfl,rfl,Eq.trans (b:=(iV (7))) rfl ?_⟩
    have hq:Gt m a22 q = 7:=by
     exact Ze ha52 (Fz.2 q62) p45_2 q64
    have hf:Jb m i = 7:=by simp only [Jb,ha22,b8,b18,b30,b33,b38,b48,b59,b62,b64,if_true]; rw [if_neg (by omega),Db p45_1 (by omega) hq (by omega)]
    rw [Jc,if_neg (by omega),Db p15_1 (by omega) hf (by omega)]
   have q64:=of_decide_eq_false b64
   refine Al ?_
   apply k54
   refine Ag rfl rfl ?_
   refine l_v (Ah (v:=(iV (a52))) rfl) ?_
   refine l_v (Cp (v:=(iV (a52))) rfl) ?_
   refine l_k k49 ?_
   refine Ag rfl rfl ?_
   refine l_v (Br h45_32 rfl (z:=(((q + 1):Nat):Int)) (Bo (by first | rfl | omega | (push_cast; rfl)) (by omega) (by omega))) ?_
   refine l_v (Ah (v:=(iV ((((q + 1):Nat):Int)))) rfl) ?_
   apply Ac
   refine ⟨_,?_,((q + 1)),(a52),rfl,rfl,rfl,rfl,h45_1,h45_13,h45_14,h45_15,h45_30,h45_31,rfl,rfl,(by omega),(Eg p45_1 (by
 exact Xj ha52 (Fz.2 q62) p45_2 q64)),(.inr ⟨_,rfl,ha52⟩),(Als p45_3 ha52 (by omega)),trivial⟩
   omega
  have q48:=of_decide_eq_false b48
  refine Bx ?_
  apply k19
  refine Ag rfl rfl ?_
  refine l_v (Br h45_15 rfl (z:=(((i + 1):Nat):Int)) (Bo (by first | rfl | omega | (push_cast; rfl)) (by omega) (by omega))) ?_
  refine l_v (Ah (v:=(iV ((((i + 1):Nat):Int)))) rfl) ?_
  refine Bj (Asf l25) ?_
  apply Ac
  refine ⟨_,?_,((i + 1)),rfl,rfl,rfl,rfl,h45_1,h45_13,h45_14,rfl,(by omega),(Eg p15_1 (by simp only [Jb,ha22,b8,b18,b30,b33,b38,b48,if_true]; rw [if_neg (by omega),Fb fun j hj=>p45_1 j (by omega)])),trivial⟩
  omega
 have q18:=of_decide_eq_false b18
 refine Bx ?_
 apply k10
 refine w_q rfl rfl fun K66 k66=>?_
 refine l_v (Cp (v:=(iV (0))) rfl) ?_
 refine l_k k66 ?_
 refine Aj (Asf l2) ?_
 refine Aq ?_
 refine hret _ _ _ ⟨rfl,rfl,Eq.trans (b:=(iV (0))) rfl ?_⟩
 rw [Jc,if_neg (by omega),Fb fun j hj=>p15_1 j (by omega)]
set_option maxRecDepth 100000 in
theorem Js {mn:Bool} {X:Frame→List Frame→Ro→Own→Cy→Prop} {ρ:Ro} {σ:Own} {m:Market} {vm:Value} (rm:Val ρ vm m):CallsH (CX mn X) 91 #[vm] ρ σ (fun w ρ' σ'=>ρ' = ρ∧σ' = σ∧w = (iV (Cf m))):=by
 refine Bh (n:=25) (args:=[vm]) [2] Tryz.func91 rfl rfl rfl rfl fun Q hret hnor=>?_
 refine w_q rfl rfl fun K1 k1=>?_
 refine Arv (Eb (v:=vm) rfl fun k2=>?_)
 refine Bb (a:=m) rm fun ρ2 l2 r2=>?_
 refine l_v (Cp (v:=(iV (0))) rfl) ?_
 refine Ary rfl rfl k1 fun K3 K4 k3 k4=>?_
 refine Arw (Ay Market.f_houses Tryz.underlying36 rfl rfl Hw (by decide) rfl r2) fun v5 r5=>?_
 refine Arw (Ax Hw rfl r5) fun v6 r6=>?_
 refine Arv (Bm (Mf r6) Tryz.func135 rfl rfl ⟨rfl,rfl,trivial⟩ ?_)
 refine l_v (Cp (v:=(iV (Dd m.houses 5))) rfl) ?_
 refine Arx rfl rfl k4 fun K7 k7=>?_
 refine l_v (Ah (v:=(iV (Dd m.houses 5))) rfl) ?_
 refine l_v (Dg rfl rfl) ?_
 refine l_k k7 ?_
 refine As (t:=Dd m.houses 5 != 0) rfl (fun b8=>?_) (fun b8=>?_)
 ·have q8:=Ls b8
  refine w_q rfl rfl fun K9 k9=>?_
  refine l_v (Ah (v:=(iV (Dd m.houses 5))) rfl) ?_
  refine l_v (Cp (v:=(iV (Dd m.houses 5))) rfl) ?_
  refine l_k k9 ?_
  refine Aj (Asf l2) ?_
  refine Aq ?_
  refine hret _ _ _ ⟨rfl,rfl,Eq.trans (b:=(iV (Dd m.houses 5))) rfl ?_⟩
  rw [Cf,Ry q8]
 have q8:=Jh b8
 refine Al ?_
 apply k3
 refine Asb rfl rfl fun K10 K11 k10 k11=>?_
 refine Arw (Ay Market.f_marks Tryz.underlying36 rfl rfl Hw (by decide) rfl r2) fun v12 r12=>?_
 refine Arw (Ax Hw rfl r12) fun v13 r13=>?_
 refine Arv (Bm (Mf r13) Tryz.func135 rfl rfl ⟨rfl,rfl,trivial⟩ ?_)
 refine l_v (Cp (v:=(iV (Dd m.marks 4))) rfl) ?_
 refine Arx rfl rfl k11 fun K14 k14=>?_
 refine l_v (Ah (v:=(iV (Dd m.marks 4))) rfl) ?_
 refine l_v (Dg rfl rfl) ?_
 refine l_k k14 ?_
 refine As (t:=Dd m.marks 4 != 0) rfl (fun b15=>?_) (fun b15=>?_)
 ·have q15:=Ls b15
  refine w_q rfl rfl fun K16 k16=>?_
  refine l_v (Ah (v:=(iV (Dd m.marks 4))) rfl) ?_
  refine l_v (Cp (v:=(iV (Dd m.marks 4))) rfl) ?_
  refine l_k k16 ?_
  refine Aj (Asf l2) ?_
  refine Aq ?_
  refine hret _ _ _ ⟨rfl,rfl,Eq.trans (b:=(iV (Dd m.marks 4))) rfl ?_⟩
  rw [Cf,Gr q8,Ry q15]
 have q15:=Jh b15
 refine Al ?_
 apply k10
 refine Asb rfl rfl fun K17 K18 k17 k18=>?_
 refine Arw (Ax Ln rfl r2) fun v19 r19=>?_
 refine Arv (Bm (Vc r19) Tryz.func136 rfl rfl ⟨rfl,trivial⟩ ?_)
 refine l_v (Cp (v:=(iV (Ew m))) rfl) ?_
 refine Arx rfl rfl k18 fun K20 k20=>?_
 refine l_v (Ah (v:=(iV (Ew m))) rfl) ?_
 refine l_v (Dg rfl rfl) ?_
 refine l_k k20 ?_
 refine As (t:=Ew m != 0) rfl (fun b21=>?_) (fun b21=>?_)
 ·have q21:=Ls b21
  refine w_q rfl rfl fun K22 k22=>?_
  refine l_v (Ah (v:=(iV (Ew m))) rfl) ?_
  refine l_v (Cp (v:=(iV (Ew m))) rfl) ?_
  refine l_k k22 ?_
  refine Aj (Asf l2) ?_
  refine Aq ?_
  refine hret _ _ _ ⟨rfl,rfl,Eq.trans (b:=(iV (Ew m))) rfl ?_⟩
  rw [Cf,Gr q8,Gr q15,Ry q21]
 have q21:=Jh b21
 refine Al ?_
 apply k17
 refine w_q rfl rfl fun K23 k23=>?_
 refine Arw (Ax Ln rfl r2) fun v24 r24=>?_
 refine Arv (Bm (Wy r24) Tryz.func137 rfl rfl ⟨rfl,trivial⟩ ?_)
 refine l_v (Cp (v:=(iV (Jc m))) rfl) ?_
 refine l_k k23 ?_
 refine Aj (Asf l2) ?_
 refine Aq ?_
 refine hret _ _ _ ⟨rfl,rfl,Eq.trans (b:=(iV (Jc m))) rfl ?_⟩
 rw [Cf,Gr q8,Gr q15,Gr q21]
set_option maxRecDepth 100000 in
theorem Amo {mn:Bool} {X:Frame→List Frame→Ro→Own→Cy→Prop} {ρ:Ro} {σ:Own} {m:Market} {vm:Value} {marks:List Span} {vk:Value} (rm:Val ρ vm m) (rk:Val ρ vk marks):CallsH (CX mn X) 54 #[vm,vk] ρ σ (fun w ρ' σ'=>ρ' = ρ∧σ' = σ∧w = (iV (Ee m marks))):=by
 refine Bh (n:=16) (args:=[vm,vk]) [4] Tryz.func54 rfl rfl rfl rfl fun Q hret hnor=>?_
 refine w_q rfl rfl fun K1 k1=>?_
 refine Arv (Eb (v:=vm) rfl fun k2=>?_)
 refine Bb (a:=m) rm fun ρ2 l2 r2=>?_
 replace rk:=Asj l2 rk
 refine l_v (Cp (v:=(iV (0))) rfl) ?_
 refine Ary rfl rfl k1 fun K3 K4 k3 k4=>?_
 refine Arw (Ax Ln rfl r2) fun v5 r5=>?_
 refine Arv (Bm (Js r5) Tryz.func91 rfl rfl ⟨rfl,trivial⟩ ?_)
 refine l_v (Cp (v:=(iV (Cf m))) rfl) ?_
 refine Arx rfl rfl k4 fun K6 k6=>?_
 refine l_v (Ah (v:=(iV (Cf m))) rfl) ?_
 refine l_v (Dg rfl rfl) ?_
 refine l_k k6 ?_
 refine As (t:=Cf m != 0) rfl (fun b7=>?_) (fun b7=>?_)
 ·have q7:=Ls b7
  refine w_q rfl rfl fun K8 k8=>?_
  refine l_v (Ah (v:=(iV (Cf m))) rfl) ?_
  refine l_v (Cp (v:=(iV (Cf m))) rfl) ?_
  refine l_k k8 ?_
  refine Aj (Asf l2) ?_
  refine Aq ?_
  refine hret _ _ _ ⟨rfl,rfl,Eq.trans (b:=(iV (Cf m))) rfl ?_⟩
  rw [Ee,Ry q7]
 have q7:=Jh b7
 refine Al ?_
 apply k3
 refine w_q rfl rfl fun K9 k9=>?_
 refine l_v (Ah (v:=vk) rfl) ?_
 refine Arw (Ay Market.f_marks Tryz.underlying36 rfl rfl Hw (by decide) rfl r2) fun v10 r10=>?_
 refine Arw (Ax Hw rfl r10) fun v11 r11=>?_
 have g12:=Val.len r11
 refine l_v (Ci (el:=9) Tryz.underlying32 rfl r11) ?_
 refine Arv (Bm (Pq rk) Tryz.func110 rfl rfl ⟨rfl,rfl,trivial⟩ ?_)
 refine l_v (Cp (v:=(iV (Fm marks (((m.marks.length:Nat):Int))))) rfl) ?_
 refine l_k k9 ?_
 refine Aj (Asf l2) ?_
 refine Aq ?_
 refine hret _ _ _ ⟨rfl,rfl,Eq.trans (b:=(iV (Fm marks (((m.marks.length:Nat):Int))))) rfl ?_⟩
 rw [Ee,Gr q7]
end Go.Proofs.YtphgjjmlnkgghaaGreatDoor

namespace Go.Proofs.YtphgjjmlnkgghaaGreatDoor
set_option maxHeartbeats 1000000
open Go
set_option maxRecDepth 100000 in
theorem Acv {mn:Bool} {X:Frame→List Frame→Ro→Own→Cy→Prop} {ρ:Ro} {σ:Own} {marks:List Span} {vk va vb:Value} {part:Int} {fa fb:FField} (rk:Val ρ vk marks) (ra:Val ρ va fa) (rb:Val ρ vb fb) (oa:Acn fa marks) (ob:Acn fb marks) (ok:∀ (i:Nat) (y:Span),marks[i]? = some y→Qt y) (hp:0 ≤ part∧part ≤ 100):CallsH (CX mn X) 101 #[vk,va,vb,(iV (part))] ρ σ (fun w ρ' σ'=>ρ' = ρ∧σ' = σ∧w = (.bool (Gm fa fb marks part))):=by
 obtain ⟨ola,_⟩:=id oa
 obtain ⟨olb,_⟩:=id ob
 refine Bh (n:=69) (args:=[vk,va,vb,(iV (part))]) [8] Tryz.func101 rfl rfl rfl rfl fun Q hret hnor=>?_
 refine w_q rfl rfl fun K1 k1=>?_
 refine Arv (Eb (v:=va) rfl fun k2=>?_)
 refine Bb (a:=fa) ra fun ρ2 l2 r2=>?_
 replace rk:=Asj l2 rk
 replace rb:=Asj l2 rb
 refine Arv (Eb (v:=vb) rfl fun k3=>?_)
 refine Bb (a:=fb) rb fun ρ3 l3 r3=>?_
 replace rk:=Asj l3 rk
 replace r2:=At.mono l3 r2
 refine l_v (Cp (v:=(.bool (false))) rfl) ?_
 refine Ary rfl rfl k1 fun K4 K5 k4 k5=>?_
 refine l_v (Ah (v:=vk) rfl) ?_
 have g6:=Val.len rk
 refine l_v (Ci (el:=41) Tryz.underlying26 rfl rk) ?_
 refine l_v (Ah (v:=(iV (0))) rfl) ?_
 refine l_k k5 ?_
 refine Ao ?_
 refine Cc (fun mm ee dd ρ' σ'=>∃ (k:Nat),(marks.length - k) = mm∧[] = dd∧ρ3 = ρ'∧σ = σ'∧ee 3 = (iV (part))∧ee 5 = (.pointer (some ⟨k2,0,none⟩))∧ee 6 = (.pointer (some ⟨k3,0,none⟩))∧ee 13 = vk∧ee 14 = (iV (((marks.length:Nat):Int)))∧ee 15 = (iV ((k:Int)))∧(k ≤ marks.length)∧(∀ j,j < k→Ho fa fb marks part j = false)∧True) (m:=_) ⟨0,rfl,rfl,rfl,rfl,rfl,rfl,rfl,rfl,rfl,rfl,(Nat.zero_le _),(fun j h=>absurd h (Nat.not_lt_zero _)),trivial⟩ ?_
 rintro m7 e7 _ _ _ ⟨k,rfl,rfl,rfl,rfl,h7_3,h7_5,h7_6,h7_13,h7_14,h7_15,p7_0,p7_1,_⟩
 refine w_q rfl rfl fun K8 k8=>?_
 refine l_v (Da h7_15 h7_14) ?_
 refine Asa k8 fun K9 k9=>?_
 refine As (t:=decide ((k:Int) < ((marks.length:Nat):Int))) rfl (fun b10=>?_) (fun b10=>?_)
 ·have q10:=of_decide_eq_true b10
  refine Al ?_
  apply k9
  refine Ai fun K11 k11=>?_
  refine Ao ?_
  refine w_q rfl rfl fun K12 k12=>?_
  refine l_v (Ah (v:=(iV ((k:Int)))) h7_15) ?_
  obtain ⟨a14,ha14⟩:=Ed (xs:=marks) (i:=k) (by omega)
  obtain ⟨o15a,o15b,o15c⟩:=ok _ _ ha14
  refine Arw (Ch k Tryz.underlying26 Mx h7_13 rk (q:=(k:Int)) h7_15 rfl ha14) fun v13 r13=>?_
  refine Arw (Ax Mx rfl r13) fun v16 r16=>?_
  refine Arv (Ct Aak fun k17=>?_)
  refine l_v (Cp (v:=(iV ((k:Int)))) rfl) ?_
  refine Cx rfl (Dv (v:=v16) (a:=a14) (c:=Arm) Mx rfl rfl r16 rfl ?_)
  refine Bb (a:=a14) r16 fun ρ18 l18 r18=>?_
  replace r2:=At.mono l18 r2
  replace r3:=At.mono l18 r3
  refine Asa k12 fun K19 k19=>?_
  refine Dc [0,1,2,3,4,5,6,7,8,9,10,11,12,13,14,15,16,17,18] (by kernel_rfl) rfl rfl ?_
  refine Bd (i:=0) Aqg rfl (by kernel_rfl) rfl Ash rfl (Ah (v:=(iV (part))) h7_3) ?_
  refine Cd (i:=1) Aqh rfl (by kernel_rfl) rfl Ash rfl (Ay FField.f_marks Tryz.underlying47 rfl rfl Uo (by decide) h7_5 r2) fun v20 r20=>?_
  refine Cd (i:=2) Aqi rfl (by kernel_rfl) rfl Ash rfl (Ax Uo rfl r20) fun v21 r21=>?_
  refine Bd (i:=3) Aqj rfl (by kernel_rfl) rfl Ash rfl (Ah (v:=(iV ((k:Int)))) rfl) ?_
  obtain ⟨a23,ha23⟩:=Ed (xs:=fa.marks) (i:=k) (by omega)
  obtain ⟨o24a,o24b,o24c⟩:=oa.2 _ _ ha23
  refine Cd (i:=4) Aqk rfl (by kernel_rfl) rfl Ash rfl (Ch k Tryz.underlying26 Mx rfl r21 (q:=(k:Int)) rfl rfl ha23) fun v22 r22=>?_
  refine Cd (i:=5) Aql rfl (by kernel_rfl) rfl Ash rfl (Ay Span.f_low Tryz.underlying41 rfl rfl ty3 (by decide) rfl r22) fun v25 r25=>?_
  have ⟨g26a,g26b⟩:=At.rng r25
  refine Bd (i:=6) Aqm rfl (by kernel_rfl) rfl Ash rfl (Bc ty3 rfl r25) ?_
  have mm27:=Aff (p:=part) (x:=a23.low) (by omega) (by omega)
  refine Bd (i:=7) Aqn rfl (by kernel_rfl) rfl Ash rfl (Wq rfl rfl (z:=(part * a23.low)) (Bo rfl (by omega) (by omega))) ?_
  refine Bd (i:=8) Aqo rfl (by kernel_rfl) rfl Ash rfl (Ah (v:=(iV (part))) h7_3) ?_
  refine Bd (i:=9) Aqp rfl (by kernel_rfl) rfl Ash rfl (Ou rfl rfl (z:=(100 - part)) (Bo (by first | rfl | omega | (push_cast; rfl)) (by omega) (by omega))) ?_
  refine Cd (i:=10) Aqq rfl (by kernel_rfl) rfl Ash rfl (Ay FField.f_marks Tryz.underlying47 rfl rfl Uo (by decide) h7_6 r3) fun v28 r28=>?_
  refine Cd (i:=11) Aqr rfl (by kernel_rfl) rfl Ash rfl (Ax Uo rfl r28) fun v29 r29=>?_
  refine Bg (i:=12) Aqs rfl (by kernel_rfl) rfl Ash rfl (Ah (v:=(iV ((k:Int)))) rfl) ?_
  obtain ⟨a31,ha31⟩:=Ed (xs:=fb.marks) (i:=k) (by omega)
  obtain ⟨o32a,o32b,o32c⟩:=ob.2 _ _ ha31
  refine Hk (i:=13) Aqt rfl (by kernel_rfl) rfl Ash rfl (Ch k Tryz.underlying26 Mx rfl r29 (q:=(k:Int)) rfl rfl ha31) fun v30 r30=>?_
  refine Hk (i:=14) Aqu rfl (by kernel_rfl) rfl Ash rfl (Ay Span.f_low Tryz.underlying41 rfl rfl ty3 (by decide) rfl r30) fun v33 r33=>?_
  have ⟨g34a,g34b⟩:=At.rng r33
  refine Bg (i:=15) Aqv rfl (by kernel_rfl) rfl Ash rfl (Bc ty3 rfl r33) ?_
  have mm35:=Aff (p:=(100 - part)) (x:=a31.low) (by omega) (by omega)
  refine Bg (i:=16) Aqw rfl (by kernel_rfl) rfl Ash rfl (Wq rfl rfl (z:=((100 - part) * a31.low)) (Bo rfl (by omega) (by omega))) ?_
  refine Bg (i:=17) Aqx rfl (by kernel_rfl) rfl Ash rfl (Br rfl rfl (z:=((part * a23.low) + ((100 - part) * a31.low))) (Bo (by rfl) (by omega) (by omega))) ?_
  refine Bg (i:=18) Aqy rfl (by kernel_rfl) rfl Ash rfl (Cp (v:=(iV (((part * a23.low) + ((100 - part) * a31.low))))) rfl) ?_
  refine Ec rfl ?_
  apply k19
  refine Ai fun K36 k36=>?_
  refine Dc [0,1,2,3,4,5,6,7,8,9,10,11,12,13,14,15,16,17,18] (by kernel_rfl) rfl rfl ?_
  refine Bd (i:=0) Aqg rfl (by kernel_rfl) rfl Ash rfl (Ah (v:=(iV (part))) h7_3) ?_
  refine Cd (i:=1) Aqh rfl (by kernel_rfl) rfl Ash rfl (Ay FField.f_marks Tryz.underlying47 rfl rfl Uo (by decide) h7_5 r2) fun v37 r37=>?_
  refine Cd (i:=2) Aqi rfl (by kernel_rfl) rfl Ash rfl (Ax Uo rfl r37) fun v38 r38=>?_
  refine Bd (i:=3) Aqj rfl (by kernel_rfl) rfl Ash rfl (Ah (v:=(iV ((k:Int)))) rfl) ?_
  refine Cd (i:=4) Aqk rfl (by kernel_rfl) rfl Ash rfl (Ch k Tryz.underlying26 Mx rfl r38 (q:=(k:Int)) rfl rfl ha23) fun v39 r39=>?_
  refine Cd (i:=5) Aql rfl (by kernel_rfl) rfl Ash rfl (Ay Span.f_high Tryz.underlying41 rfl rfl ty3 (by decide) rfl r39) fun v40 r40=>?_
  have ⟨g41a,g41b⟩:=At.rng r40
  refine Bd (i:=6) Aqm rfl (by kernel_rfl) rfl Ash rfl (Bc ty3 rfl r40) ?_
  have mm42:=Aff (p:=part) (x:=a23.high) (by omega) (by omega)
  refine Bd (i:=7) Aqn rfl (by kernel_rfl) rfl Ash rfl (Wq rfl rfl (z:=(part * a23.high)) (Bo rfl (by omega) (by omega))) ?_
  refine Bd (i:=8) Aqo rfl (by kernel_rfl) rfl Ash rfl (Ah (v:=(iV (part))) h7_3) ?_
  refine Bd (i:=9) Aqp rfl (by kernel_rfl) rfl Ash rfl (Ou rfl rfl (z:=(100 - part)) (Bo (by first | rfl | omega | (push_cast; rfl)) (by omega) (by omega))) ?_
  refine Cd (i:=10) Aqq rfl (by kernel_rfl) rfl Ash rfl (Ay FField.f_marks Tryz.underlying47 rfl rfl Uo (by decide) h7_6 r3) fun v43 r43=>?_
  refine Cd (i:=11) Aqr rfl (by kernel_rfl) rfl Ash rfl (Ax Uo rfl r43) fun v44 r44=>?_
  refine Bg (i:=12) Aqs rfl (by kernel_rfl) rfl Ash rfl (Ah (v:=(iV ((k:Int)))) rfl) ?_
  refine Hk (i:=13) Aqt rfl (by kernel_rfl) rfl Ash rfl (Ch k Tryz.underlying26 Mx rfl r44 (q:=(k:Int)) rfl rfl ha31) fun v45 r45=>?_
  refine Hk (i:=14) Aqu rfl (by kernel_rfl) rfl Ash rfl (Ay Span.f_high Tryz.underlying41 rfl rfl ty3 (by decide) rfl r45) fun v46 r46=>?_
  have ⟨g47a,g47b⟩:=At.rng r46
  refine Bg (i:=15) Aqv rfl (by kernel_rfl) rfl Ash rfl (Bc ty3 rfl r46) ?_
  have mm48:=Aff (p:=(100 - part)) (x:=a31.high) (by omega) (by omega)
  refine Bg (i:=16) Aqw rfl (by kernel_rfl) rfl Ash rfl (Wq rfl rfl (z:=((100 - part) * a31.high)) (Bo rfl (by omega) (by omega))) ?_
  refine Bg (i:=17) Aqx rfl (by kernel_rfl) rfl Ash rfl (Br rfl rfl (z:=((part * a23.high) + ((100 - part) * a31.high))) (Bo (by rfl) (by omega) (by omega))) ?_
  refine Bg (i:=18) Aqy rfl (by kernel_rfl) rfl Ash rfl (Cp (v:=(iV (((part * a23.high) + ((100 - part) * a31.high))))) rfl) ?_
  refine Ec rfl ?_
  apply k36
  refine w_q rfl rfl fun K49 k49=>?_
  refine l_v (Ah (v:=(iV (((part * a23.low) + ((100 - part) * a31.low))))) rfl) ?_
  refine Arw (Ay Span.f_high Tryz.underlying41 rfl rfl ty3 (by decide) rfl r18) fun v50 r50=>?_
  have ⟨g51a,g51b⟩:=At.rng r50
  refine l_v (Bc ty3 rfl r50) ?_
  have mm52:=Aff (p:=100) (x:=a14.high) (by omega) (by omega)
  refine l_v (Wq rfl rfl (z:=(100 * a14.high)) (Bo rfl (by omega) (by omega))) ?_
  refine l_v (Gl rfl rfl) ?_
  refine l_v (Ah (v:=(.bool (decide (((part * a23.low) + ((100 - part) * a31.low)) > (100 * a14.high))))) rfl) ?_
  refine Cn (decide (((part * a23.low) + ((100 - part) * a31.low)) > (100 * a14.high))) (fun b53=>?_) (fun b53=>?_)
  ·have q53:=of_decide_eq_true b53
   refine Ap (Bl rfl rfl rfl b53) ?_
   refine Ap (Bl rfl rfl rfl b53) ?_
   refine Ap (Bl rfl rfl rfl b53) ?_
   refine Ap (Bl rfl rfl rfl b53) ?_
   refine Ap (Bl rfl rfl rfl b53) ?_
   refine l_v (Bt rfl b53 (v:=(.bool (true))) rfl) ?_
   refine l_k k49 ?_
   refine Co rfl rfl ?_
   refine w_q rfl rfl fun K54 k54=>?_
   refine l_v (Cp (v:=(.bool (false))) rfl) ?_
   refine l_k k54 ?_
   refine Aj (Asf (Asi (Asi l2 l3) l18)) ?_
   refine Aq ?_
   refine hret _ _ _ ⟨rfl,rfl,Eq.trans (b:=(.bool (false))) rfl ?_⟩
   have hf:Ho fa fb marks part k = true:=by simp only [Ho,ha23,ha31,ha14,Tz,b10,b53,Bool.true_and,Bool.false_and,Bool.and_true,Bool.and_false,Bool.true_or,Bool.false_or,Bool.or_true,Bool.or_false,Bool.not_true,Bool.not_false]
   rw [Yv (by omega) hf]
  have q53:=of_decide_eq_false b53
  refine l_M (iV (((part * a23.high) + ((100 - part) * a31.high)))) (Ar rfl rfl rfl b53) rfl ?_
  refine Ak (Ar rfl rfl rfl b53) (Ay Span.f_low Tryz.underlying41 rfl rfl ty3 (by decide) rfl r18) fun v55 r55=>?_
  have ⟨g56a,g56b⟩:=At.rng r55
  refine Aa (Ar rfl rfl rfl b53) (Bc ty3 rfl r55) ?_
  have mm57:=Aff (p:=100) (x:=a14.low) (by omega) (by omega)
  refine Aa (Ar rfl rfl rfl b53) (Wq rfl rfl (z:=(100 * a14.low)) (Bo rfl (by omega) (by omega))) ?_
  refine Aa (Ar rfl rfl rfl b53) (Da rfl rfl) ?_
  refine l_v (Bn rfl b53 (v:=(.bool (decide (((part * a23.high) + ((100 - part) * a31.high)) < (100 * a14.low))))) rfl) ?_
  refine l_k k49 ?_
  refine As (t:=decide (((part * a23.high) + ((100 - part) * a31.high)) < (100 * a14.low))) rfl (fun b58=>?_) (fun b58=>?_)
  ·have q58:=of_decide_eq_true b58
   refine w_q rfl rfl fun K59 k59=>?_
   refine l_v (Cp (v:=(.bool (false))) rfl) ?_
   refine l_k k59 ?_
   refine Aj (Asf (Asi (Asi l2 l3) l18)) ?_
   refine Aq ?_
   refine hret _ _ _ ⟨rfl,rfl,Eq.trans (b:=(.bool (false))) rfl ?_⟩
   have hf:Ho fa fb marks part k = true:=by simp only [Ho,ha23,ha31,ha14,Tz,b10,b53,b58,Bool.true_and,Bool.false_and,Bool.and_true,Bool.and_false,Bool.true_or,Bool.false_or,Bool.or_true,Bool.or_false,Bool.not_true,Bool.not_false]
   rw [Yv (by omega) hf]
  have q58:=of_decide_eq_false b58
  refine Al ?_
  apply k11
  refine Ag rfl rfl ?_
  refine l_v (Br h7_15 rfl (z:=(((k + 1):Nat):Int)) (Bo (by first | rfl | omega | (push_cast; rfl)) (by omega) (by omega))) ?_
  refine l_v (Ah (v:=(iV ((((k + 1):Nat):Int)))) rfl) ?_
  refine Bj (Asf l18) ?_
  apply Ac
  refine ⟨_,?_,((k + 1)),rfl,rfl,rfl,rfl,h7_3,h7_5,h7_6,h7_13,h7_14,rfl,(by omega),(Eg p7_1 (by simp only [Ho,ha23,ha31,ha14,Tz,b10,b53,b58,Bool.true_and,Bool.false_and,Bool.and_true,Bool.and_false,Bool.true_or,Bool.false_or,Bool.or_true,Bool.or_false,Bool.not_true,Bool.not_false])),trivial⟩
  omega
 have q10:=of_decide_eq_false b10
 refine Bx ?_
 apply k4
 refine w_q rfl rfl fun K60 k60=>?_
 refine l_v (Cp (v:=(.bool (true))) rfl) ?_
 refine l_k k60 ?_
 refine Aj (Asf (Asi l2 l3)) ?_
 refine Aq ?_
 refine hret _ _ _ ⟨rfl,rfl,Eq.trans (b:=(.bool (true))) rfl ?_⟩
 rw [Aij fun k hk=>p7_1 k (by omega)]
set_option maxRecDepth 100000 in
theorem Akn {mn:Bool} {X:Frame→List Frame→Ro→Own→Cy→Prop} {ρ:Ro} {σ:Own} {m:Market} {vm:Value} {marks:List Span} {vk:Value} (rm:Val ρ vm m) (rk:Val ρ vk marks):CallsH (CX mn X) 40 #[vm,vk] ρ σ (fun w ρ' σ'=>ρ' = ρ∧σ' = σ∧w = (Qx m marks)):=by
 refine Bh (n:=57) (args:=[vm,vk]) [4,5,6,7,8] Tryz.func40 rfl rfl rfl rfl fun Q hret hnor=>?_
 refine w_q rfl rfl fun K1 k1=>?_
 refine Arv (Eb (v:=vm) rfl fun k2=>?_)
 refine Bb (a:=m) rm fun ρ2 l2 r2=>?_
 replace rk:=Asj l2 rk
 refine l_v (Cp (v:=(iV (0))) rfl) ?_
 refine l_v (Cp (v:=(iV (0))) rfl) ?_
 refine l_v (Cp (v:=(iV (0))) rfl) ?_
 refine l_v (Cp (v:=(.bool (false))) rfl) ?_
 refine l_v (Cp (v:=(iV (0))) rfl) ?_
 refine Ary rfl rfl k1 fun K3 K4 k3 k4=>?_
 refine Arw (Ax Ln rfl r2) fun v5 r5=>?_
 refine l_v (Ah (v:=vk) rfl) ?_
 refine Arv (Bm (Amo r5 rk) Tryz.func54 rfl rfl ⟨rfl,rfl,trivial⟩ ?_)
 refine l_v (Cp (v:=(iV (Ee m marks))) rfl) ?_
 refine Arx rfl rfl k4 fun K6 k6=>?_
 refine l_v (Ah (v:=(iV (Ee m marks))) rfl) ?_
 refine l_v (Dg rfl rfl) ?_
 refine l_k k6 ?_
 refine As (t:=Ee m marks != 0) rfl (fun b7=>?_) (fun b7=>?_)
 ·have q7:=Ls b7
  refine w_q rfl rfl fun K8 k8=>?_
  refine l_v (Ah (v:=(iV (Ee m marks))) rfl) ?_
  refine l_v (Cp (v:=(iV (0))) rfl) ?_
  refine l_v (Cp (v:=(iV (0))) rfl) ?_
  refine l_v (Cp (v:=(iV (0))) rfl) ?_
  refine l_v (Cp (v:=(.bool (false))) rfl) ?_
  refine l_v (Cp (v:=(iV (Ee m marks))) rfl) ?_
  refine l_k k8 ?_
  refine Aj (Asf l2) ?_
  refine Aq ?_
  refine hret _ _ _ ⟨rfl,rfl,Eq.trans (b:=(.tuple #[(iV (0)),(iV (0)),(iV (0)),(.bool (false)),(iV (Ee m marks))])) (Mp (r:=4) (r':=5) (rs:=[6,7,8]) (v:=(iV (0))) (v':=(iV (0))) (vs:=[(iV (0)),(.bool (false)),(iV (Ee m marks))]) ⟨rfl,rfl,rfl,rfl,rfl,trivial⟩) ?_⟩
  rw [Qx,if_neg q7]
 have q7:=Jh b7
 refine Al ?_
 apply k3
 refine Asb rfl rfl fun K9 K10 k9 k10=>?_
 refine Arw (Ay Market.f_fields Tryz.underlying36 rfl rfl Se (by decide) rfl r2) fun v11 r11=>?_
 refine Arw (Ax Se rfl r11) fun v12 r12=>?_
 have g13:=Val.len r12
 refine l_v (Ci (el:=47) Tryz.underlying33 rfl r12) ?_
 refine l_v (Ah (v:=(iV (0))) rfl) ?_
 refine l_k k10 ?_
 refine Ao ?_
 obtain ⟨ok,okm⟩:=Xw q7
 have hn6:=okm.nfields
 refine Cc (fun mm ee dd ρ' σ'=>∃ (i:Nat),(m.fields.length - i) = mm∧[] = dd∧ρ2 = ρ'∧σ = σ'∧ee 1 = vk∧ee 2 = (.pointer (some ⟨k2,0,none⟩))∧ee 22 = v12∧ee 23 = (iV (((m.fields.length:Nat):Int)))∧ee 24 = (iV ((i:Int)))∧(i ≤ m.fields.length)∧(∀ j,j < i→(kAt m marks j).isSome = false)∧True) (m:=_) ⟨0,rfl,rfl,rfl,rfl,rfl,rfl,rfl,rfl,rfl,(Nat.zero_le _),(fun j h=>absurd h (Nat.not_lt_zero _)),trivial⟩ ?_
 rintro m14 e14 _ _ _ ⟨i,rfl,rfl,rfl,rfl,h14_1,h14_2,h14_22,h14_23,h14_24,p14_0,p14_1,_⟩
 refine w_q rfl rfl fun K15 k15=>?_
 refine l_v (Da h14_24 h14_23) ?_
 refine Asa k15 fun K16 k16=>?_
 refine As (t:=decide ((i:Int) < ((m.fields.length:Nat):Int))) rfl (fun b17=>?_) (fun b17=>?_)
 ·have q17:=of_decide_eq_true b17
  refine Al ?_
  apply k16
  refine Ai fun K18 k18=>?_
  refine Ao ?_
  refine w_q rfl rfl fun K19 k19=>?_
  refine l_v (Ah (v:=(iV ((i:Int)))) h14_24) ?_
  obtain ⟨a21,ha21⟩:=Ed (xs:=m.fields) (i:=i) (by omega)
  refine Arw (Ch i Tryz.underlying33 Lo h14_22 r12 (q:=(i:Int)) h14_24 rfl ha21) fun v20 r20=>?_
  refine Arw (Ax Lo rfl r20) fun v22 r22=>?_
  refine Arv (Ct Xu fun k23=>?_)
  refine l_v (Cp (v:=(iV ((i:Int)))) rfl) ?_
  refine Cx rfl (Dv (v:=v22) (a:=a21) (c:=Aah) Lo rfl rfl r22 rfl ?_)
  refine Bb (a:=a21) r22 fun ρ24 l24 r24=>?_
  replace rk:=Asj l24 rk
  replace r2:=At.mono l24 r2
  refine Arx rfl rfl k19 fun K25 k25=>?_
  refine Arw (Ay Market.f_fields Tryz.underlying36 rfl rfl Se (by decide) h14_2 r2) fun v26 r26=>?_
  refine Arw (Ax Se rfl r26) fun v27 r27=>?_
  refine l_v (Ah (v:=(iV ((i:Int)))) rfl) ?_
  refine l_v (Br rfl rfl (z:=(((i + 1):Nat):Int)) (Bo (by first | rfl | omega | (push_cast; rfl)) (by omega) (by omega))) ?_
  refine Arw (Ack ((i + 1)) Tryz.underlying33 Lo rfl r27 (q:=(((i + 1):Nat):Int)) rfl rfl (by omega)) fun v28 r28=>?_
  have g29:=Val.len r28
  refine l_v (Ci (el:=47) Tryz.underlying33 rfl r28) ?_
  refine l_v (Ah (v:=(iV (0))) rfl) ?_
  refine l_k k25 ?_
  refine Ao ?_
  refine Cc (fun mm ee dd ρ' σ'=>∃ (r:Nat),((m.fields.drop (i + 1)).length - r) = mm∧[] = dd∧ρ24 = ρ'∧σ = σ'∧ee 1 = vk∧ee 2 = (.pointer (some ⟨k2,0,none⟩))∧ee 10 = (iV ((i:Int)))∧ee 11 = (.pointer (some ⟨k23,0,none⟩))∧ee 22 = v12∧ee 23 = (iV (((m.fields.length:Nat):Int)))∧ee 24 = (iV ((i:Int)))∧ee 33 = v28∧ee 34 = (iV (((((m.fields.drop ((i + 1)))).length:Nat):Int)))∧ee 35 = (iV ((r:Int)))∧(r ≤ (m.fields.drop (i + 1)).length)∧(∀ j,j < i + 1 + r→kOk m marks i j = false)∧True) (m:=_) ⟨0,rfl,rfl,rfl,rfl,h14_1,h14_2,rfl,rfl,h14_22,h14_23,h14_24,rfl,rfl,rfl,(Nat.zero_le _),(fun j h=>by simp [kOk]; omega),trivial⟩ ?_
  rintro m30 e30 _ _ _ ⟨r,rfl,rfl,rfl,rfl,h30_1,h30_2,h30_10,h30_11,h30_22,h30_23,h30_24,h30_33,h30_34,h30_35,p30_0,p30_1,_⟩
  refine w_q rfl rfl fun K31 k31=>?_
  refine l_v (Da h30_35 h30_34) ?_
  refine Asa k31 fun K32 k32=>?_
  refine As (t:=decide ((r:Int) < ((((m.fields.drop ((i + 1)))).length:Nat):Int))) rfl (fun b33=>?_) (fun b33=>?_)
  ·have q33:=of_decide_eq_true b33
   refine Al ?_
   apply k32
   refine Ai fun K34 k34=>?_
   refine Ao ?_
   refine w_q rfl rfl fun K35 k35=>?_
   refine l_v (Ah (v:=(iV ((r:Int)))) h30_35) ?_
   obtain ⟨a37,ha37⟩:=Ed (xs:=(m.fields.drop ((i + 1)))) (i:=r) (by omega)
   refine Arw (Ch r Tryz.underlying33 Lo h30_33 r28 (q:=(r:Int)) h30_35 rfl ha37) fun v36 r36=>?_
   refine Arw (Ax Lo rfl r36) fun v38 r38=>?_
   refine Arv (Ct Xu fun k39=>?_)
   refine l_v (Cp (v:=(iV ((r:Int)))) rfl) ?_
   refine Cx rfl (Dv (v:=v38) (a:=a37) (c:=Aah) Lo rfl rfl r38 rfl ?_)
   refine Bb (a:=a37) r38 fun ρ40 l40 r40=>?_
   replace rk:=Asj l40 rk
   replace r24:=At.mono l40 r24
   refine Arx rfl rfl k35 fun K41 k41=>?_
   refine l_v (Cp (v:=(iV (1))) rfl) ?_
   refine l_k k41 ?_
   refine Ao ?_
   refine Cc (fun mm ee dd ρ' σ'=>∃ (q:Nat),(99 - q) = mm∧[] = dd∧ρ40 = ρ'∧σ = σ'∧ee 1 = vk∧ee 2 = (.pointer (some ⟨k2,0,none⟩))∧ee 10 = (iV ((i:Int)))∧ee 11 = (.pointer (some ⟨k23,0,none⟩))∧ee 12 = (iV ((r:Int)))∧ee 13 = (.pointer (some ⟨k39,0,none⟩))∧ee 22 = v12∧ee 23 = (iV (((m.fields.length:Nat):Int)))∧ee 24 = (iV ((i:Int)))∧ee 33 = v28∧ee 34 = (iV (((((m.fields.drop ((i + 1)))).length:Nat):Int)))∧ee 35 = (iV ((r:Int)))∧ee 14 = (iV ((((q + 1):Nat):Int)))∧(q ≤ 99)∧(∀ j,j < q→Rx m marks i (i + 1 + r) (j + 1) = false)∧True) (m:=_) ⟨0,rfl,rfl,rfl,rfl,h30_1,h30_2,h30_10,h30_11,rfl,rfl,h30_22,h30_23,h30_24,h30_33,h30_34,h30_35,rfl,(by omega),(fun j h=>absurd h (Nat.not_lt_zero _)),trivial⟩ ?_
   rintro m42 e42 _ _ _ ⟨q,rfl,rfl,rfl,rfl,h42_1,h42_2,h42_10,h42_11,h42_12,h42_13,h42_22,h42_23,h42_24,h42_33,h42_34,h42_35,h42_14,p42_0,p42_1,_⟩
   refine Asb rfl rfl fun K43 K44 k43 k44=>?_
   refine l_v (Ah (v:=(iV ((((q + 1):Nat):Int)))) h42_14) ?_
   refine l_v (Da rfl rfl) ?_
   refine l_k k44 ?_
   refine As (t:=decide ((((q + 1):Nat):Int) < 100)) rfl (fun b45=>?_) (fun b45=>?_)
   ·have q45:=of_decide_eq_true b45
    refine Al ?_
    apply k43
    refine Ai fun K46 k46=>?_
    refine Ao ?_
    refine w_q rfl rfl fun K47 k47=>?_
    refine l_v (Ah (v:=vk) h42_1) ?_
    refine Arw (Ax Lo h42_11 r24) fun v48 r48=>?_
    refine Arw (Ax Lo h42_13 r40) fun v49 r49=>?_
    refine l_v (Ah (v:=(iV ((((q + 1):Nat):Int)))) h42_14) ?_
    refine Arv (Bm (Acv rk r48 r49 (ok.fields _ _ ha21) (ok.fields _ _ (by rw [List.getElem?_drop] at ha37; exact ha37)) ok.marks (by omega)) Tryz.func101 rfl rfl ⟨rfl,rfl,rfl,rfl,trivial⟩ ?_)
    refine l_k k47 ?_
    refine As (t:=Gm a21 a37 marks ((((q + 1):Nat):Int))) rfl (fun b50=>?_) (fun b50=>?_)
    ·refine w_q rfl rfl fun K51 k51=>?_
     refine l_v (Ah (v:=(iV ((i:Int)))) h42_10) ?_
     refine l_v (Ah (v:=(iV ((i:Int)))) h42_10) ?_
     refine l_v (Br rfl rfl (z:=(((i + 1):Nat):Int)) (Bo (by first | rfl | omega | (push_cast; rfl)) (by omega) (by omega))) ?_
     refine l_v (Ah (v:=(iV ((r:Int)))) h42_12) ?_
     refine l_v (Br rfl rfl (z:=((((i + 1) + r):Nat):Int)) (Bo (by first | rfl | omega | (push_cast; rfl)) (by omega) (by omega))) ?_
     refine l_v (Ah (v:=(iV ((((q + 1):Nat):Int)))) h42_14) ?_
     refine l_v (Cp (v:=(iV ((i:Int)))) rfl) ?_
     refine l_v (Cp (v:=(iV (((((i + 1) + r):Nat):Int)))) rfl) ?_
     refine l_v (Cp (v:=(iV ((((q + 1):Nat):Int)))) rfl) ?_
     refine l_v (Cp (v:=(.bool (true))) rfl) ?_
     refine l_v (Cp (v:=(iV (0))) rfl) ?_
     refine l_k k51 ?_
     refine Aj (Asf (Asi (Asi l2 l24) l40)) ?_
     refine Aq ?_
     refine hret _ _ _ ⟨rfl,rfl,Eq.trans (b:=(.tuple #[(iV ((i:Int))),(iV (((((i + 1) + r):Nat):Int))),(iV ((((q + 1):Nat):Int))),(.bool (true)),(iV (0))])) (Mp (r:=4) (r':=5) (rs:=[6,7,8]) (v:=(iV ((i:Int)))) (v':=(iV (((((i + 1) + r):Nat):Int)))) (vs:=[(iV ((((q + 1):Nat):Int))),(.bool (true)),(iV (0))]) ⟨rfl,rfl,rfl,rfl,rfl,trivial⟩) ?_⟩
     have hy:=ha37
     rw [List.getElem?_drop] at hy
     have hm:Rx m marks i (i + 1 + r) (q + 1) = true:=by simp only [Rx,ha21,hy]; exact b50
     rw [Qx,if_pos q7,Aax (by omega) (List.getElem?_eq_some_iff.1 hy).1 (by omega) (by omega) p14_1 p30_1 p42_1 hm]
    refine Al ?_
    apply k46
    refine Ag rfl rfl ?_
    refine l_v (Ah (v:=(iV ((((q + 1):Nat):Int)))) h42_14) ?_
    refine l_v (Br rfl rfl (z:=((((q + 1) + 1):Nat):Int)) (Bo (by first | rfl | omega | (push_cast; rfl)) (by omega) (by omega))) ?_
    refine l_v (Cp (v:=(iV (((((q + 1) + 1):Nat):Int)))) rfl) ?_
    apply Ac
    refine ⟨_,?_,(q + 1),rfl,rfl,rfl,rfl,h42_1,h42_2,h42_10,h42_11,h42_12,h42_13,h42_22,h42_23,h42_24,h42_33,h42_34,h42_35,rfl,(by omega),(Eg p42_1 (by have hy:=ha37; rw [List.getElem?_drop] at hy; simp only [Rx,ha21,hy]; exact b50)),trivial⟩
    omega
   have q45:=of_decide_eq_false b45
   refine Bx ?_
   apply k34
   refine Ag rfl rfl ?_
   refine l_v (Br h42_35 rfl (z:=(((r + 1):Nat):Int)) (Bo (by first | rfl | omega | (push_cast; rfl)) (by omega) (by omega))) ?_
   refine l_v (Ah (v:=(iV ((((r + 1):Nat):Int)))) rfl) ?_
   refine Bj (Asf l40) ?_
   apply Ac
   refine ⟨_,?_,((r + 1)),rfl,rfl,rfl,rfl,h42_1,h42_2,h42_10,h42_11,h42_22,h42_23,h42_24,h42_33,h42_34,rfl,(by omega),(Eg p30_1 (show kOk m marks i (i + 1 + r) = false by rw [kOk,Aip fun j hj=>p42_1 j (by omega)]; simp)),trivial⟩
   omega
  have q33:=of_decide_eq_false b33
  refine Bx ?_
  apply k18
  refine Ag rfl rfl ?_
  refine l_v (Br h30_24 rfl (z:=(((i + 1):Nat):Int)) (Bo (by first | rfl | omega | (push_cast; rfl)) (by omega) (by omega))) ?_
  refine l_v (Ah (v:=(iV ((((i + 1):Nat):Int)))) rfl) ?_
  refine Bj (Asf l24) ?_
  apply Ac
  refine ⟨_,?_,((i + 1)),rfl,rfl,rfl,rfl,h30_1,h30_2,h30_22,h30_23,rfl,(by omega),(Eg p14_1 (Aib fun j hj=>p30_1 j (by simp only [List.length_drop] at *; omega))),trivial⟩
  omega
 have q17:=of_decide_eq_false b17
 refine Bx ?_
 apply k9
 refine w_q rfl rfl fun K52 k52=>?_
 refine l_v (Cp (v:=(iV (0))) rfl) ?_
 refine l_v (Cp (v:=(iV (0))) rfl) ?_
 refine l_v (Cp (v:=(iV (0))) rfl) ?_
 refine l_v (Cp (v:=(.bool (false))) rfl) ?_
 refine l_v (Cp (v:=(iV (0))) rfl) ?_
 refine l_k k52 ?_
 refine Aj (Asf l2) ?_
 refine Aq ?_
 refine hret _ _ _ ⟨rfl,rfl,Eq.trans (b:=(.tuple #[(iV (0)),(iV (0)),(iV (0)),(.bool (false)),(iV (0))])) (Mp (r:=4) (r':=5) (rs:=[6,7,8]) (v:=(iV (0))) (v':=(iV (0))) (vs:=[(iV (0)),(.bool (false)),(iV (0))]) ⟨rfl,rfl,rfl,rfl,rfl,trivial⟩) ?_⟩
 rw [Qx,if_pos q7,Aaw fun j hj=>p14_1 j (by omega)]
end Go.Proofs.YtphgjjmlnkgghaaGreatDoor

namespace Go.Proofs.YtphgjjmlnkgghaaGreatDoor
open Go
def Rp (l:Lab) (s:ByteArray) (k:Nat):Bool:=match l.tests[k]? with | some x=>x.name.toList == s.toList | none=>false
def Nk (t:FTest) (k:Nat):Int:=match t.sees[k]? with | some b=>if decide (b < 0) || decide (b > 2) then 1 else 0 | none=>0
def Hb (l:Lab) (i:Nat):Int:=match l.tests[i]? with
  | none=>0
  | some t=>if Hg t.name then (if (Cl i (Rp l t.name)).isSome then 5 else if (t.sees.length:Int) = (l.kinds.length:Int) then Hl t.sees.length (Nk t) else 2) else 4
def Jy (l:Lab):Int:=if inR l.most 0 (l.kinds.length:Int) then (if (l.tests.length:Int) > 5 then 2 else Hl l.tests.length (Hb l)) else 1
def Gh (l:Lab):Int:=orF (Dd l.kinds 4) (Jy l)
def Vy (l:Lab) (rs:List Found) (i:Nat):Int:=match rs[i]? with | some r=>if inR r.test 0 ((l.tests.length:Int) - 1) then 0 else 6 | none=>0
def Hv (l:Lab) (rs:List Found):Int:=orF (Gh l) (if (rs.length:Int) > 8 then 2 else Hl rs.length (Vy l rs))
theorem Zn {l:Lab} {i:Nat} {s:ByteArray}:inL ((l.tests.map FTest.name).take i) s = true↔(Cl i (Rp l s)).isSome = true:=by
  rw [← Bool.not_eq_false,← Bool.not_eq_false,Fs]
  apply not_congr
  unfold inL
  rw [List.any_eq_false]
  constructor
  · intro h j hj
    unfold Rp
    cases hx:l.tests[j]? with
    | none=>rfl
    | some x =>
      have:=h x.name (List.mem_of_getElem? (i:=j) (by rw [List.getElem?_take,if_pos hj,List.getElem?_map,hx]; rfl))
      simp only [beq_iff_eq] at this
      simp only [beq_eq_false_iff_ne,ne_eq]
      exact fun e=>this e.symm
  · intro h x hx
    obtain ⟨j,hj⟩:=List.getElem?_of_mem hx
    rw [List.getElem?_take] at hj
    split at hj
    · rename_i hlt
      rw [List.getElem?_map] at hj
      obtain ⟨y,hy,rfl⟩:=Option.map_eq_some_iff.1 hj
      have:=h j hlt
      unfold Rp at this
      rw [hy] at this
      simp only [beq_eq_false_iff_ne,ne_eq] at this
      simp only [beq_iff_eq]
      exact fun e=>this e.symm
    · cases hj
theorem Og {l:Lab} {i:Nat} {s:ByteArray} (h:inL ((l.tests.map FTest.name).take i) s = false):(Cl i (Rp l s)).isSome = false:=by
  cases hh:(Cl i (Rp l s)).isSome with
  | false=>rfl
  | true=>rw [Zn.2 hh] at h; cases h
end Go.Proofs.YtphgjjmlnkgghaaGreatDoor

namespace Go.Proofs.YtphgjjmlnkgghaaGreatDoor
set_option maxHeartbeats 1000000
open Go
set_option maxRecDepth 100000 in
theorem Aaz {mn:Bool} {X:Frame→List Frame→Ro→Own→Cy→Prop} {ρ:Ro} {σ:Own} {l:Lab} {vl:Value} (rl:Val ρ vl l):CallsH (CX mn X) 168 #[vl] ρ σ (fun w ρ' σ'=>ρ' = ρ∧σ' = σ∧w = (iV (Gh l))):=by
 refine Bh (n:=66) (args:=[vl]) [2] Tryz.func168 rfl rfl rfl rfl fun Q hret hnor=>?_
 refine w_q rfl rfl fun K1 k1=>?_
 refine Arv (Eb (v:=vl) rfl fun k2=>?_)
 refine Bb (a:=l) rl fun ρ2 l2 r2=>?_
 refine l_v (Cp (v:=(iV (0))) rfl) ?_
 refine Ary rfl rfl k1 fun K3 K4 k3 k4=>?_
 refine Arw (Ay Lab.f_kinds Tryz.underlying105 rfl rfl Hw (by decide) rfl r2) fun v5 r5=>?_
 refine Arw (Ax Hw rfl r5) fun v6 r6=>?_
 refine Arv (Bm (Mf r6) Tryz.func135 rfl rfl ⟨rfl,rfl,trivial⟩ ?_)
 refine l_v (Cp (v:=(iV (Dd l.kinds 4))) rfl) ?_
 refine Arx rfl rfl k4 fun K7 k7=>?_
 refine l_v (Ah (v:=(iV (Dd l.kinds 4))) rfl) ?_
 refine l_v (Dg rfl rfl) ?_
 refine l_k k7 ?_
 refine As (t:=Dd l.kinds 4 != 0) rfl (fun b8=>?_) (fun b8=>?_)
 ·have q8:=Ls b8
  refine w_q rfl rfl fun K9 k9=>?_
  refine l_v (Ah (v:=(iV (Dd l.kinds 4))) rfl) ?_
  refine l_v (Cp (v:=(iV (Dd l.kinds 4))) rfl) ?_
  refine l_k k9 ?_
  refine Aj (Asf l2) ?_
  refine Aq ?_
  refine hret _ _ _ ⟨rfl,rfl,Eq.trans (b:=(iV (Dd l.kinds 4))) rfl ?_⟩
  rw [Gh,Ry q8]
 have q8:=Jh b8
 refine Al ?_
 apply k3
 refine Ai fun K10 k10=>?_
 refine Ao ?_
 refine w_q rfl rfl fun K11 k11=>?_
 refine Arw (Ay Lab.f_most Tryz.underlying105 rfl rfl ty3 (by decide) rfl r2) fun v12 r12=>?_
 have ⟨g13a,g13b⟩:=At.rng r12
 refine l_v (Bc ty3 rfl r12) ?_
 refine Arw (Ay Lab.f_kinds Tryz.underlying105 rfl rfl Hw (by decide) rfl r2) fun v14 r14=>?_
 refine Arw (Ax Hw rfl r14) fun v15 r15=>?_
 have g16:=Val.len r15
 refine l_v (Ci (el:=9) Tryz.underlying32 rfl r15) ?_
 refine Arv (Bm (Jl) Tryz.func117 rfl rfl ⟨rfl,rfl,rfl,trivial⟩ ?_)
 refine l_v (Iy rfl) ?_
 refine l_v (Cp (v:=(.bool (!(inR l.most 0 (((l.kinds.length:Nat):Int)))))) rfl) ?_
 refine l_k k11 ?_
 refine As (t:=!(inR l.most 0 (((l.kinds.length:Nat):Int)))) rfl (fun b17=>?_) (fun b17=>?_)
 ·have b18:=not_eq_t b17
  have q18:=Tr.1 b18
  refine w_q rfl rfl fun K19 k19=>?_
  refine l_v (Cp (v:=(iV (1))) rfl) ?_
  refine l_k k19 ?_
  refine Aj (Asf l2) ?_
  refine Aq ?_
  refine hret _ _ _ ⟨rfl,rfl,Eq.trans (b:=(iV (1))) rfl ?_⟩
  have hi:inR l.most 0 (l.kinds.length:Int) = false:=Tr.2 q18
  rw [Gh,Gr q8,Jy,hi]; rfl
 have b20:=not_eq_f b17
 have q20:=Fz.1 b20
 refine w_q rfl rfl fun K21 k21=>?_
 refine Arw (Ay Lab.f_tests Tryz.underlying105 rfl rfl Vi (by decide) rfl r2) fun v22 r22=>?_
 refine Arw (Ax Vi rfl r22) fun v23 r23=>?_
 have g24:=Val.len r23
 refine l_v (Ci (el:=189) Tryz.underlying103 rfl r23) ?_
 refine l_v (Gl rfl rfl) ?_
 refine l_v (Cp (v:=(.bool (decide (((l.tests.length:Nat):Int) > 5)))) rfl) ?_
 refine l_k k21 ?_
 refine As (t:=decide (((l.tests.length:Nat):Int) > 5)) rfl (fun b25=>?_) (fun b25=>?_)
 ·have q25:=of_decide_eq_true b25
  refine w_q rfl rfl fun K26 k26=>?_
  refine l_v (Cp (v:=(iV (2))) rfl) ?_
  refine l_k k26 ?_
  refine Aj (Asf l2) ?_
  refine Aq ?_
  refine hret _ _ _ ⟨rfl,rfl,Eq.trans (b:=(iV (2))) rfl ?_⟩
  have hi:inR l.most 0 (l.kinds.length:Int) = true:=Fz.2 q20
  rw [Gh,Gr q8,Jy,hi,if_pos rfl,if_pos (by omega)]
 have q25:=of_decide_eq_false b25
 refine Al ?_
 apply k10
 refine w_q rfl rfl fun K27 k27=>?_
 refine Arv (Oh fun k28=>?_)
 refine l_v (Cp (v:=(.map (some k28))) rfl) ?_
 refine Ary rfl rfl k27 fun K29 K30 k29 k30=>?_
 refine Arw (Ay Lab.f_tests Tryz.underlying105 rfl rfl Vi (by decide) rfl r2) fun v31 r31=>?_
 refine Arw (Ax Vi rfl r31) fun v32 r32=>?_
 have g33:=Val.len r32
 refine l_v (Ci (el:=189) Tryz.underlying103 rfl r32) ?_
 refine l_v (Ah (v:=(iV (0))) rfl) ?_
 refine l_k k30 ?_
 refine Ao ?_
 refine Cc (fun mm ee dd ρ' σ'=>∃ (i:Nat) (es34_4:Array MapEntry) (ck34_4:Nat),(l.tests.length - i) = mm∧[] = dd∧ρ2 = ρ'∧((k28,Res.obj (Obj.map es34_4 ck34_4)) :: σ) = σ'∧ee 1 = (.pointer (some ⟨k2,0,none⟩))∧ee 31 = v32∧ee 32 = (iV (((l.tests.length:Nat):Int)))∧ee 4 = (.map (some k28))∧ee 33 = (iV ((i:Int)))∧(i ≤ l.tests.length)∧(∀ j,j < i→Hb l j = 0)∧Mu es34_4 (inL ((l.tests.map FTest.name).take i))∧True) (m:=_) ⟨0,#[],0,rfl,rfl,rfl,rfl,rfl,rfl,rfl,rfl,rfl,(Nat.zero_le _),(fun j h=>absurd h (Nat.not_lt_zero _)),(Rl (fun k=>by simp [inL]) Uh),trivial⟩ ?_
 rintro m34 e34 _ _ _ ⟨i,es34_4,ck34_4,rfl,rfl,rfl,rfl,h34_1,h34_31,h34_32,h34_4,h34_33,p34_0,p34_1,MS34_4,_⟩
 refine w_q rfl rfl fun K35 k35=>?_
 refine l_v (Da h34_33 h34_32) ?_
 refine Asa k35 fun K36 k36=>?_
 refine As (t:=decide ((i:Int) < ((l.tests.length:Nat):Int))) rfl (fun b37=>?_) (fun b37=>?_)
 ·have q37:=of_decide_eq_true b37
  refine Al ?_
  apply k36
  refine Ai fun K38 k38=>?_
  refine Ao ?_
  refine w_q rfl rfl fun K39 k39=>?_
  obtain ⟨a41,ha41⟩:=Ed (xs:=l.tests) (i:=i) (by omega)
  refine Arw (Ch i Tryz.underlying103 Um h34_31 r32 (q:=(i:Int)) h34_33 rfl ha41) fun v40 r40=>?_
  refine Arw (Ax Um rfl r40) fun v42 r42=>?_
  refine Arv (Ct Ws fun k43=>?_)
  refine Cx rfl (Dv (v:=v42) (a:=a41) (c:=Aag) Um rfl rfl r42 rfl ?_)
  refine Bb (a:=a41) r42 fun ρ44 l44 r44=>?_
  replace r2:=At.mono l44 r2
  refine Ary rfl rfl k39 fun K45 K46 k45 k46=>?_
  refine l_v (Ah (v:=(.map (some k28))) h34_4) ?_
  refine Arw (Ay FTest.f_name Tryz.underlying189 rfl rfl ty9 (by decide) rfl r44) fun v47 r47=>?_
  have g48:=At.slen r47
  refine l_v (Pk ty9 rfl r47) ?_
  refine Arv (Cm (vs:=[(.map (some k28)),(.string (a41.name))]) (Wx (i:=0) MS34_4 rfl (by omega)) Tryz.func170 rfl rfl ⟨rfl,rfl,trivial⟩ fun w49 ρ49 σ49 hc49=>?_)
  obtain ⟨hr49,hc49⟩:=hc49
  replace hr49:=hr49.symm; subst hr49
  rcases hc49 with ⟨rfl,hn49,rfl⟩ | ⟨rfl,hn49,hp49,rfl⟩ | ⟨rfl,hn49,hp49,es49,ck49,S49,rfl⟩
  ·refine l_v (Cp (v:=(iV (4))) rfl) ?_
   refine Arx rfl rfl k46 fun K50 k50=>?_
   refine l_v (Ah (v:=(iV (4))) rfl) ?_
   refine l_v (Dg rfl rfl) ?_
   refine l_k k50 ?_
   refine Co rfl rfl ?_
   refine w_q rfl rfl fun K51 k51=>?_
   refine l_v (Ah (v:=(iV (4))) rfl) ?_
   refine l_v (Cp (v:=(iV (4))) rfl) ?_
   refine l_k k51 ?_
   refine Aj Ghost.drop ?_
   refine Aj (Asf (Asi l2 l44)) ?_
   refine Aq ?_
   refine hret _ _ _ ⟨rfl,rfl,Eq.trans (b:=(iV (4))) rfl ?_⟩
   have hi:inR l.most 0 (l.kinds.length:Int) = true:=Fz.2 q20
   have hf:Hb l i = 4:=by
    simp [Hb,ha41,hn49,b8,b17,b20,b25,b37]
   rw [Gh,Gr q8,Jy,hi,if_pos rfl,if_neg (by omega),Db p34_1 (by omega) hf (by omega)]
  ·refine l_v (Cp (v:=(iV (5))) rfl) ?_
   refine Arx rfl rfl k46 fun K52 k52=>?_
   refine l_v (Ah (v:=(iV (5))) rfl) ?_
   refine l_v (Dg rfl rfl) ?_
   refine l_k k52 ?_
   refine Co rfl rfl ?_
   refine w_q rfl rfl fun K53 k53=>?_
   refine l_v (Ah (v:=(iV (5))) rfl) ?_
   refine l_v (Cp (v:=(iV (5))) rfl) ?_
   refine l_k k53 ?_
   refine Aj Ghost.drop ?_
   refine Aj (Asf (Asi l2 l44)) ?_
   refine Aq ?_
   refine hret _ _ _ ⟨rfl,rfl,Eq.trans (b:=(iV (5))) rfl ?_⟩
   have hi:inR l.most 0 (l.kinds.length:Int) = true:=Fz.2 q20
   have hf:Hb l i = 5:=by
    have htw:=Zn.1 hp49
    simp [Hb,ha41,hn49,htw,b8,b17,b20,b25,b37]
   rw [Gh,Gr q8,Jy,hi,if_pos rfl,if_neg (by omega),Db p34_1 (by omega) hf (by omega)]
  refine l_v (Cp (v:=(iV (0))) rfl) ?_
  refine Arx rfl rfl k46 fun K54 k54=>?_
  refine l_v (Ah (v:=(iV (0))) rfl) ?_
  refine l_v (Dg rfl rfl) ?_
  refine l_k k54 ?_
  refine Cg rfl rfl ?_
  refine Al ?_
  apply k45
  refine Asb rfl rfl fun K55 K56 k55 k56=>?_
  refine Arw (Ay FTest.f_sees Tryz.underlying189 rfl rfl Afp (by decide) rfl r44) fun v57 r57=>?_
  refine Arw (Ax Afp rfl r57) fun v58 r58=>?_
  have g59:=Val.len r58
  refine l_v (Ci (el:=124) Tryz.underlying108 rfl r58) ?_
  refine Arw (Ay Lab.f_kinds Tryz.underlying105 rfl rfl Hw (by decide) h34_1 r2) fun v60 r60=>?_
  refine Arw (Ax Hw rfl r60) fun v61 r61=>?_
  have g62:=Val.len r61
  refine l_v (Ci (el:=9) Tryz.underlying32 rfl r61) ?_
  refine l_v (Dg rfl rfl) ?_
  refine l_k k56 ?_
  refine As (t:=((a41.sees.length:Nat):Int) != ((l.kinds.length:Nat):Int)) rfl (fun b63=>?_) (fun b63=>?_)
  ·have q63:=Ls b63
   refine w_q rfl rfl fun K64 k64=>?_
   refine l_v (Cp (v:=(iV (2))) rfl) ?_
   refine l_k k64 ?_
   refine Aj Ghost.drop ?_
   refine Aj (Asf (Asi l2 l44)) ?_
   refine Aq ?_
   refine hret _ _ _ ⟨rfl,rfl,Eq.trans (b:=(iV (2))) rfl ?_⟩
   have hi:inR l.most 0 (l.kinds.length:Int) = true:=Fz.2 q20
   have hf:Hb l i = 2:=by
    have htw:=Og hp49
    simp only [Hb,ha41,hn49,htw,b8,b17,b20,b25,b37,b63,if_true,Bool.false_eq_true,if_false]
    rw [if_neg (by omega)]
   rw [Gh,Gr q8,Jy,hi,if_pos rfl,if_neg (by omega),Db p34_1 (by omega) hf (by omega)]
  have q63:=Jh b63
  refine Al ?_
  apply k55
  refine w_q rfl rfl fun K65 k65=>?_
  refine Arw (Ay FTest.f_sees Tryz.underlying189 rfl rfl Afp (by decide) rfl r44) fun v66 r66=>?_
  refine Arw (Ax Afp rfl r66) fun v67 r67=>?_
  have g68:=Val.len r67
  refine l_v (Ci (el:=124) Tryz.underlying108 rfl r67) ?_
  refine l_v (Ah (v:=(iV (0))) rfl) ?_
  refine l_k k65 ?_
  refine Ao ?_
  refine Cc (fun mm ee dd ρ' σ'=>∃ (q:Nat),(a41.sees.length - q) = mm∧[] = dd∧ρ44 = ρ'∧((k28,Res.obj (Obj.map es49 ck49)) :: σ) = σ'∧ee 1 = (.pointer (some ⟨k2,0,none⟩))∧ee 4 = (.map (some k28))∧ee 31 = v32∧ee 32 = (iV (((l.tests.length:Nat):Int)))∧ee 33 = (iV ((i:Int)))∧ee 52 = v67∧ee 53 = (iV (((a41.sees.length:Nat):Int)))∧ee 54 = (iV ((q:Int)))∧(q ≤ a41.sees.length)∧(∀ j,j < q→Nk a41 j = 0)∧True) (m:=_) ⟨0,rfl,rfl,rfl,rfl,h34_1,h34_4,h34_31,h34_32,h34_33,rfl,rfl,rfl,(Nat.zero_le _),(fun j h=>absurd h (Nat.not_lt_zero _)),trivial⟩ ?_
  rintro m69 e69 _ _ _ ⟨q,rfl,rfl,rfl,rfl,h69_1,h69_4,h69_31,h69_32,h69_33,h69_52,h69_53,h69_54,p69_0,p69_1,_⟩
  refine w_q rfl rfl fun K70 k70=>?_
  refine l_v (Da h69_54 h69_53) ?_
  refine Asa k70 fun K71 k71=>?_
  refine As (t:=decide ((q:Int) < ((a41.sees.length:Nat):Int))) rfl (fun b72=>?_) (fun b72=>?_)
  ·have q72:=of_decide_eq_true b72
   refine Al ?_
   apply k71
   refine Ai fun K73 k73=>?_
   refine Ao ?_
   refine w_q rfl rfl fun K74 k74=>?_
   obtain ⟨a76,ha76⟩:=Ed (xs:=a41.sees) (i:=q) (by omega)
   refine Arw (Ch q Tryz.underlying108 Pi h69_52 r67 (q:=(q:Int)) h69_54 rfl ha76) fun v75 r75=>?_
   have ⟨g77a,g77b⟩:=At.rng r75
   refine l_v (Bc Pi rfl r75) ?_
   refine l_v (Cp (v:=(iV (a76))) rfl) ?_
   refine Arx rfl rfl k74 fun K78 k78=>?_
   refine l_v (Ah (v:=(iV (a76))) rfl) ?_
   refine l_v (Da rfl rfl) ?_
   refine l_v (Ah (v:=(.bool (decide (a76 < 0)))) rfl) ?_
   refine Cn (decide (a76 < 0)) (fun b79=>?_) (fun b79=>?_)
   ·have q79:=of_decide_eq_true b79
    refine Ap (Bl rfl rfl rfl b79) ?_
    refine Ap (Bl rfl rfl rfl b79) ?_
    refine l_v (Bt rfl b79 (v:=(.bool (true))) rfl) ?_
    refine l_k k78 ?_
    refine Co rfl rfl ?_
    refine w_q rfl rfl fun K80 k80=>?_
    refine l_v (Cp (v:=(iV (1))) rfl) ?_
    refine l_k k80 ?_
    refine Aj Ghost.drop ?_
    refine Aj (Asf (Asi l2 l44)) ?_
    refine Aq ?_
    refine hret _ _ _ ⟨rfl,rfl,Eq.trans (b:=(iV (1))) rfl ?_⟩
    have hi:inR l.most 0 (l.kinds.length:Int) = true:=Fz.2 q20
    have hf:Hb l i = 1:=by
     have htw:=Og hp49
     have hq:Nk a41 q = 1:=by simp only [Nk,ha76,b8,b17,b20,b25,b37,b63,b72,b79,Bool.true_and,Bool.false_and,Bool.and_true,Bool.and_false,Bool.true_or,Bool.false_or,Bool.or_true,Bool.or_false,Bool.not_true,Bool.not_false]; rfl
     simp only [Hb,ha41,hn49,htw,b8,b17,b20,b25,b37,b63,b72,b79,if_true,Bool.false_eq_true,if_false]
     rw [if_pos (by omega),Db p69_1 (by omega) hq (by omega)]
    rw [Gh,Gr q8,Jy,hi,if_pos rfl,if_neg (by omega),Db p34_1 (by omega) hf (by omega)]
   have q79:=of_decide_eq_false b79
   refine l_M (iV (a76)) (Ar rfl rfl rfl b79) rfl ?_
   refine Aa (Ar rfl rfl rfl b79) (Gl rfl rfl) ?_
   refine l_v (Bn rfl b79 (v:=(.bool (decide (a76 > 2)))) rfl) ?_
   refine l_k k78 ?_
   refine As (t:=decide (a76 > 2)) rfl (fun b81=>?_) (fun b81=>?_)
   ·have q81:=of_decide_eq_true b81
    refine w_q rfl rfl fun K82 k82=>?_
    refine l_v (Cp (v:=(iV (1))) rfl) ?_
    refine l_k k82 ?_
    refine Aj Ghost.drop ?_
    refine Aj (Asf (Asi l2 l44)) ?_
    refine Aq ?_
    refine hret _ _ _ ⟨rfl,rfl,Eq.trans (b:=(iV (1))) rfl ?_⟩
    have hi:inR l.most 0 (l.kinds.length:Int) = true:=Fz.2 q20
    have hf:Hb l i = 1:=by
     have htw:=Og hp49
     have hq:Nk a41 q = 1:=by simp only [Nk,ha76,b8,b17,b20,b25,b37,b63,b72,b79,b81,Bool.true_and,Bool.false_and,Bool.and_true,Bool.and_false,Bool.true_or,Bool.false_or,Bool.or_true,Bool.or_false,Bool.not_true,Bool.not_false]; rfl
     simp only [Hb,ha41,hn49,htw,b8,b17,b20,b25,b37,b63,b72,b79,b81,if_true,Bool.false_eq_true,if_false]
     rw [if_pos (by omega),Db p69_1 (by omega) hq (by omega)]
    rw [Gh,Gr q8,Jy,hi,if_pos rfl,if_neg (by omega),Db p34_1 (by omega) hf (by omega)]
   have q81:=of_decide_eq_false b81
   refine Al ?_
   apply k73
   refine Ag rfl rfl ?_
   refine l_v (Br h69_54 rfl (z:=(((q + 1):Nat):Int)) (Bo (by first | rfl | omega | (push_cast; rfl)) (by omega) (by omega))) ?_
   refine l_v (Ah (v:=(iV ((((q + 1):Nat):Int)))) rfl) ?_
   apply Ac
   refine ⟨_,?_,((q + 1)),rfl,rfl,rfl,rfl,h69_1,h69_4,h69_31,h69_32,h69_33,h69_52,h69_53,rfl,(by omega),(Eg p69_1 (by simp only [Nk,ha76,b8,b17,b20,b25,b37,b63,b72,b79,b81,Bool.true_and,Bool.false_and,Bool.and_true,Bool.and_false,Bool.true_or,Bool.false_or,Bool.or_true,Bool.or_false,Bool.not_true,Bool.not_false]; rfl)),trivial⟩
   omega
  have q72:=of_decide_eq_false b72
  refine Bx ?_
  apply k38
  refine Ag rfl rfl ?_
  refine l_v (Br h69_33 rfl (z:=(((i + 1):Nat):Int)) (Bo (by first | rfl | omega | (push_cast; rfl)) (by omega) (by omega))) ?_
  refine l_v (Ah (v:=(iV ((((i + 1):Nat):Int)))) rfl) ?_
  refine Bj (Asf l44) ?_
  apply Ac
  refine ⟨_,?_,((i + 1)),es49,ck49,rfl,rfl,rfl,rfl,h69_1,h69_31,h69_32,h69_4,rfl,(by omega),(Eg p34_1 (by
 have htw:=Og hp49
 simp only [Hb,ha41,hn49,htw,b8,b17,b20,b25,b37,b63,b72,if_true,Bool.false_eq_true,if_false]
 rw [if_pos (by omega),Fb fun j hj=>p69_1 j (by omega)])),(Rl (Tq (by rw [List.getElem?_map,ha41]; rfl)) S49),trivial⟩
  omega
 have q37:=of_decide_eq_false b37
 refine Bx ?_
 apply k29
 refine w_q rfl rfl fun K83 k83=>?_
 refine l_v (Cp (v:=(iV (0))) rfl) ?_
 refine l_k k83 ?_
 refine Aj Ghost.drop ?_
 refine Aj (Asf l2) ?_
 refine Aq ?_
 refine hret _ _ _ ⟨rfl,rfl,Eq.trans (b:=(iV (0))) rfl ?_⟩
 have hi:inR l.most 0 (l.kinds.length:Int) = true:=Fz.2 q20
 rw [Gh,Gr q8,Jy,hi,if_pos rfl,if_neg (by omega),Fb fun j hj=>p34_1 j (by omega)]
end Go.Proofs.YtphgjjmlnkgghaaGreatDoor

namespace Go.Proofs.YtphgjjmlnkgghaaGreatDoor
open Go
def Es (h:Int) (x:FField):Int:=if x.house = h then x.grows.high else 0
def Em (m:Market) (h:Int):Int:=(m.fields.map (Es h)).sum
theorem Zm {α:Type} {f:α→Int} {l:List α} {i:Nat} {a:α} (h:l[i]? = some a):((l.take (i + 1)).map f).sum = ((l.take i).map f).sum + f a:=by
  rw [List.take_add_one,h,List.map_append,List.sum_append]; simp
theorem Xb {h:Int} {x:FField} (h1:0 ≤ x.grows.low∧x.grows.low ≤ x.grows.high∧x.grows.high ≤ 1000000):0 ≤ Es h x∧Es h x ≤ 1000000:=by
  unfold Es; split <;> omega
/-- Whether it is settled that a tin is pure. -/
def Ig (l:List Int) (i:Nat):Bool:=match l[i]?,l[0]? with | some x,some y=>((x == 0) != (y == 0)) | _,_=>false
def Ea (l:List Int):Bool:=(Cl l.length (Ig l)).isNone
theorem Afl {l:List Int} (h:∀ j,j < l.length→Ig l j = false):Ea l = true:=by unfold Ea; rw [Ep h]; rfl
theorem Afk {l:List Int} {i:Nat} (hi:i < l.length) (h:Ig l i = true):Ea l = false:=by
  unfold Ea
  cases he:Cl l.length (Ig l) with
  | some k=>rfl
  | none =>
    have:=Fs.1 (show (Cl l.length (Ig l)).isSome = false by rw [he]; rfl) i hi
    rw [h] at this; cases this
end Go.Proofs.YtphgjjmlnkgghaaGreatDoor

namespace Go.Proofs.YtphgjjmlnkgghaaGreatDoor
open Go
/-- The loop's own function,called with x. -/
def Acp (C:Ctx) (l:Nat) (x:Value) (ρ:Ro) (σ:Own) (R:Value→Ro→Own→Prop):Prop :=
  ∀ rd ds,wpS C.P ρ (Instr.yield l #[x]) σ (NextH C (fun v ds' ρ' σ'=>ds' = ds∧R v ρ' σ') rd ds ρ)
/-- A function value that hands these values,one after the other,to the function that it gets,as long as that yields true. -/
def IterF (f:Value) (ρ₀:Ro) (ys:List Value):Prop :=
  ∃ (k:FuncId) (fn:Func) (caps:List Value),f = .func (.func k) #[] caps.toArray∧Tryz.prog.funcs[k]? = some fn∧(fn.name == "runtime.NumGoroutine") = false∧fn.body.isNone = false ∧
    ∀ (mn:Bool) (X:Frame→List Frame→Ro→Own→Cy→Prop) (l:Nat) (I:List Value→Ro→Own→Prop) (ρ:Ro) (σ:Own),Ro.le ρ₀ ρ→(∀ pre ρ ρ' σ,Ro.le ρ ρ'→I pre ρ σ→I pre ρ' σ)→I [] ρ σ →
      (∀ pre x post ρ' σ',ys = pre ++ x :: post→Ro.le ρ ρ'→I pre ρ' σ'→Acp (CX mn X) l x ρ' σ' (fun v ρ'' σ''=>v = .bool true∧Ro.le ρ' ρ''∧I (pre ++ [x]) ρ'' σ'')) →
      CallsH (CX mn X) k (.func (.yield l) #[] #[] :: caps).toArray ρ σ (fun _ ρ' σ'=>Ro.le ρ ρ'∧I ys ρ' σ')
section
variable {mn:Bool} {X:Frame→List Frame→Ro→Own→Cy→Prop} {b:FB} {n:Nat} {e:Env} {ds:List Deferred} {ρ:Ro} {σ:Own} {K:Value→List Deferred→Ro→Own→Prop} {rd:Option Nat} {dd:Option Tmp}
variable {ty:TypeId} {pos:String} {af:Array Edge} {g:Option (Nat × Bool)} {x y:Operand} {v p:Value} {t t':TypeId}
/-- A call of the loop's function,in an iterator. -/
theorem Xr {l:Nat} {tys:Array TypeId} {R:Value→Ro→Own→Prop} (hx:Af e x = .func (.yield l) #[] #[]) (hy:Af e y = v) (hY:Acp (CX mn X) l v ρ σ R) (h:∀ w ρ' σ',R w ρ' σ'→K w ds ρ' σ') :
    wpS (CX mn X).P ρ (execOp (Af e) ⟨dd,.call ⟨.value x,#[y],tys⟩,ty,pos,af,g⟩) σ (NextH (CX mn X) K rd ds ρ):=by
  have hargs:(#[y]:Array Operand).map (Af e) = #[v]:=by simp [hy]
  show wpS Tryz.prog ρ ((Deferred.ofValue (Af e x) ((#[y]:Array Operand).map (Af e))).bind _) σ _
  rw [hx,hargs]
  show wpS Tryz.prog ρ (Instr.yield l (#[] ++ #[v])) σ _
  have e1:(#[] ++ #[v]:Array Value) = #[v]:=by simp
  rw [e1]
  exact Eu (fun nx σ' hn=>hn.mono (by rintro w ds' ρ' σ' ⟨rfl,hR⟩; exact h w ρ' σ' hR)) _ _ (hY rd ds)
theorem Afw {P:Program} {l i:Nat} {L:Loop} {Q:Next→Own→Prop} (hi:σ[i]? = some (l,.obj (.loop L))) {args:Array Value} (hs:args.size = L.params.size)
    (h:Q (.round l L.fn ((L.params.zip args).foldl (fun tmps (t,a)=>tmps.setIfInBounds t a) L.tmps) L.assign L.body) σ):wpS P ρ (Instr.yield l args) σ Q:=by
  show wpS P ρ ((Instr.getLoop l).bind _) σ Q
  rw [Ad]
  show wpS P ρ ((getObj l).bind _) σ _
  rw [Ad]
  refine ⟨_,.inr (List.mem_of_getElem? hi),rfl,?_⟩
  show wpS P ρ (if args.size ≠ L.params.size then _ else _) σ Q
  rw [if_neg (by simpa using hs)]
  exact h
theorem Vd {P:Program} {k:FuncId} {fn:Func} {args:Array Value} (h1:P.funcs[k]? = some fn) (h2:(fn.name == "runtime.NumGoroutine") = false) (h3:fn.body.isNone = false) (W:World) (es:Array Event):(callFunc k args).runT P W es = (.ok (.enter k args) W,es):=by
  show (program.bind _:Sem Next).runT P W es = _
  rw [Sem.runT_bind']
  show Sem.runT P (match P.funcs[k]? with | none=>_ | some fn=>_) W es = _
  rw [h1]
  simp only [h2,h3]
  rfl
theorem Abv {P:Program} {main:Bool} {b:FB} {tm:Array Value} {ds:List Deferred} {f:Operand} {ps:Array Tmp} {assign body:Code} {k:List Item} {cs:List Frame} {kk:FuncId} {fn:Func} {caps:List Value} {W W':World} {lm:Nat × List Deferred} {es:Array Event} (hr:b.round = none) (hk:b.kind = .normal)
    (hf:(Fr b tm ds (.code (.rangeFunc f ps assign body) :: k)).eval f = .func (.func kk) #[] caps.toArray) (h1:P.funcs[kk]? = some fn) (h2:(fn.name == "runtime.NumGoroutine") = false) (h3:fn.body.isNone = false)
    (hrun:(Instr.enterLoop b.fn tm ps assign body none).runT P W #[] = (.ok lm W',es)) :
    ∃ es',stepG P main (Conc.G (Fr b tm ds (.code (.rangeFunc f ps assign body) :: k)) cs) W = .go (Conc.G (Frame.enter P kk (Value.func (.yield lm.1) #[] #[] :: caps).toArray .normal) (Fr b tm (lm.2 ++ ds) (.inRangeFunc lm.1 :: k) :: cs)) W' es'∧∀ e ∈ es',e ∈ es:=by
  obtain ⟨l,mark⟩:=lm
  have hkind:(b.kind == CallKind.early) = false:=by rw [hk]; rfl
  have hev2:(Fr b tm (mark ++ ds) (.inRangeFunc l :: k)).eval f = .func (.func kk) #[] caps.toArray:=by
    rw [← hf]; cases f <;> rfl
  have hi:(do let d ← resolve (Fr b tm (mark ++ ds) (.inRangeFunc l :: k)).eval { callee:=.value f,args:=#[.const (.func (.yield l) #[] #[])],argTypes:=#[] } 0; invoke d.target d.args:Sem Next).runT P W' #[] = (.ok (.enter kk (Value.func (.yield l) #[] #[] :: caps).toArray) W',#[]):=by
    generalize hfr:Fr b tm (mark ++ ds) (.inRangeFunc l :: k) = fr at hev2
    have e1:(do let d ← resolve fr.eval { callee:=.value f,args:=#[.const (.func (.yield l) #[] #[])],argTypes:=#[] } 0; invoke d.target d.args:Sem Next) = callFunc kk (Value.func (.yield l) #[] #[] :: caps).toArray:=by
      show ((Deferred.ofValue (fr.eval f) ((#[.const (.func (.yield l) #[] #[])]:Array Operand).map fr.eval)).bind _) = _
      rw [hev2]
      show callFunc kk ((#[] ++ ((#[.const (.func (.yield l) #[] #[])]:Array Operand).map fr.eval)) ++ caps.toArray) = _
      congr 1
      simp [Frame.eval]
    rw [e1]; exact Vd h1 h2 h3 W' #[]
  refine ⟨seen P b.fn es ++ seen P b.fn #[],?_,fun ev he=>?_⟩
  · simp only [Fr,hr] at hi
    simp only [Conc.G,stepG,stepG.exec,Fr,hr,hrun,stepG.apply,if_true,hi,hkind,GStep.after]
    rfl
  · rcases Array.mem_append.1 he with h | h
    · exact Lh h
    · have:=Lh h; simp at this
theorem Vj {P:Program} {fn:FuncId} {tm:Array Value} {ps:Array Tmp} {assign body:Code} {Q:Nat × List Deferred→Own→Prop}
    (h:∀ r l,Q (l,[{ target:=.collected r,args:=#[] }]) ((l,.obj (.loop { state:=.ready,pending:=none,fn,tmps:=tm,params:=ps,assign,body,defers:=r })) :: (r,.obj (.deferred (some []))) :: σ)) :
    wpS P ρ (Instr.enterLoop fn tm ps assign body none) σ Q:=by
  show wpS P ρ ((newObj (.deferred (some []))).bind _) σ Q
  rw [Ad]
  refine .inl ⟨rfl,fun r=>?_⟩
  show wpS P ρ ((newObj (.loop { state:=.ready,pending:=none,fn,tmps:=tm,params:=ps,assign,body,defers:=r })).bind _) _ Q
  rw [Ad]
  exact .inl ⟨rfl,fun l=>h r l⟩
theorem Zz {P:Program} {l:Nat} {L:Loop} {Q:Option Code→Own→Prop} {σ:Own} (hb:(L.state == .busy) = false) (h:Q L.pending ((l,.obj (.loop { L with state:=.exhausted })) :: σ)):wpS P ρ (Instr.endLoop l) ((l,.obj (.loop L)) :: σ) Q:=by
  show wpS P ρ ((Instr.getLoop l).bind _) _ Q
  rw [Ad]
  show wpS P ρ ((getObj l).bind _) _ _
  rw [Ad]
  refine ⟨_,.inr (List.mem_cons_self ..),rfl,?_⟩
  show wpS P ρ (if L.state == .busy then _ else _) _ Q
  rw [if_neg (by simp [hb])]
  exact ⟨rfl,0,_,rfl,rfl,h⟩
/-- A RANGE OVER A FUNCTION,to the end: J says what is held beside the loop after the first values. -/
theorem Hs {f:Operand} {q:Nat} {assign body:Code} {Q:Hu} {fv:Value} {ys:List Value} (J:List Value→Ro→Own→Prop) (hr:b.round = none) (hk:b.kind = .normal) (hq:q < n) (hf:Af e f = fv) (hF:IterF fv ρ ys)
    (hJm:∀ pre ρ ρ' σ,Ro.le ρ ρ'→J pre ρ σ→J pre ρ' σ) (hJ:J [] ρ σ)
    (hbody:∀ l pre x post ρ' τ,ys = pre ++ x :: post→Ro.le ρ ρ'→J pre ρ' τ→∀ pfx:Own,
      WpC (CX mn X) ⟨b.fn,.normal,some l⟩ n assign (fun ex e1 ds1 ρ1 σ1=>ex = .normal∧ds1 = []∧Ro.le ρ' ρ1∧∃ τ1,σ1 = pfx ++ τ1 ∧
        ∀ pfx2:Own,WpC (CX mn X) ⟨b.fn,.normal,some l⟩ n body (fun ex _ _ ρ2 σ2=>ex = .normal∧Ro.le ρ1 ρ2∧∃ τ2,σ2 = pfx2 ++ τ2∧J (pre ++ [x]) ρ2 τ2) e1 [] ρ1 (pfx2 ++ τ1)) (upd e q x) [] ρ' (pfx ++ τ))
    (hend:∀ r ρ' τ,Ro.le ρ ρ'→J ys ρ' τ→Q .normal e ({ target:=.collected r,args:=#[] } :: ds) ρ' ((r,.obj (.deferred (some []))) :: τ)) :
    WpC (CX mn X) b n (.rangeFunc f #[q] assign body) Q e ds ρ σ:=by
  intro tm k cs ht
  obtain ⟨kk,fn,caps,rfl,h1,h2,h3,h4⟩:=hF
  have hkind:(b.kind == CallKind.early) = false:=by rw [hk]; rfl
  have hev:(Fr b tm ds (.code (.rangeFunc f #[q] assign body) :: k)).eval f = .func (.func kk) #[] caps.toArray:=by rw [ht.eval]; exact hf
  refine Lw (s:=Instr.enterLoop b.fn tm #[q] assign body none)
    (f:=fun lm=>(Frame.enter Tryz.prog kk (Value.func (.yield lm.1) #[] #[] :: caps).toArray .normal,Fr b tm (lm.2 ++ ds) (.inRangeFunc lm.1 :: k) :: cs))
    (Q:=fun lm σ'=>∃ r,lm.2 = [{ target:=.collected r,args:=#[] }]∧σ' = (lm.1,Res.obj (.loop { state:=.ready,pending:=none,fn:=b.fn,tmps:=tm,params:=#[q],assign,body,defers:=r })) :: (r,.obj (.deferred (some []))) :: σ)
    (fun W lm W' es hrun=>?_) (Vj fun r l=>⟨r,rfl,rfl⟩) ?_
  · exact Abv hr hk (by rw [ht.eval]; exact hf) (P:=Tryz.prog) h1 h2 h3 hrun
  rintro ⟨l,mark⟩ σ' ⟨r,hm,rfl⟩
  simp only at hm
  subst hm
  -- the iterator's call
  let L:Loop:={ state:=.ready,pending:=none,fn:=b.fn,tmps:=tm,params:=#[q],assign,body,defers:=r }
  have hcall:=h4 mn X l (fun pre ρ' σ'=>∃ τ,σ' = (l,Res.obj (.loop L)) :: (r,.obj (.deferred (some []))) :: τ∧J pre ρ' τ) ρ ((l,Res.obj (.loop L)) :: (r,.obj (.deferred (some []))) :: σ) .refl
    (fun pre ρ1 ρ2 σ1 hle ⟨τ,e1,e2⟩=>⟨τ,e1,hJm _ _ _ _ hle e2⟩) ⟨σ,rfl,hJ⟩ (fun pre x post ρ' σ' hys hle ⟨τ,e1,e2⟩ rd ds'=>?_)
  · refine (hcall (Fr b tm ([{ target:=.collected r,args:=#[] }] ++ ds) (.inRangeFunc l :: k)) cs).bind ?_
    rintro _ cs' ρ' σ' ⟨v,rfl,hcs,hle,τ,rfl,hJ'⟩
    subst hcs
    have e1:(Fr b tm ([{ target:=.collected r,args:=#[] }] ++ ds) (.inRangeFunc l :: k)).finish v = Fr b tm ([{ target:=.collected r,args:=#[] }] ++ ds) (.endRangeFunc l :: k):=rfl
    rw [e1]
    refine Lw (s:=Instr.endLoop l) (f:=fun j=>(Fr b tm ([{ target:=.collected r,args:=#[] }] ++ ds) ((j.map Item.code).toList ++ k),cs')) (Q:=fun j σ''=>j = none∧σ'' = (l,Res.obj (.loop { L with state:=.exhausted })) :: (r,.obj (.deferred (some []))) :: τ) (fun W j W' es hrun=>?_) (Zz rfl ⟨rfl,rfl⟩) ?_
    · exact ⟨seen Tryz.prog b.fn es ++ #[],by simp [Conc.G,stepG,stepG.exec,Fr,-Sem.runT_eq,hrun,GStep.after],fun ev he=>Lh (by simpa using he)⟩
    · rintro j σ'' ⟨rfl,rfl⟩
      refine .ghost Ghost.drop (.stop ⟨rfl,.normal,tm,e,_,k,ht,hend r ρ' τ hle hJ',rfl,rfl⟩)
  · subst e1
    refine Afw (i:=0) rfl (by simp [L]) ?_
    show RoundH (CX mn X) l b.fn _ assign body ρ' _ _
    have etm:((L.params.zip #[x]).foldl (fun tmps (t,a)=>tmps.setIfInBounds t a) L.tmps) = tm.setIfInBounds q x:=by simp [L]
    rw [etm]
    refine Abr (ht.put hq x) ?_
    refine Adw (hbody l pre x post ρ' τ hys hle e2 [(l,Res.obj (.loop L)),(r,.obj (.deferred (some [])))]) ?_
    rintro ex e1 ds1 ρ1 σ1 ⟨rfl,rfl,hl1,τ1,rfl,hb⟩
    refine ⟨rfl,rfl,0,L,rfl,rfl,?_⟩
    refine Adw (hb [(l,Res.obj (.loop { L with state:=.busy })),(r,.obj (.deferred (some [])))]) ?_
    rintro ex e2 ds2 ρ2 σ2 ⟨rfl,hl2,τ2,rfl,hJ2⟩
    refine ⟨0,{ L with state:=.busy },rfl,rfl,rfl,hl1.trans hl2,τ2,?_,hJ2⟩
    rfl
end
end Go.Proofs.YtphgjjmlnkgghaaGreatDoor

namespace Go.Proofs.YtphgjjmlnkgghaaGreatDoor
open Go
def Cu (s k:Nat):Bool:=(s >>> k) % 2 == 1
theorem Apl {p q:Int} (h:(p == q) = false):p ≠ q:=fun e=>by subst e; simp at h
theorem Apn {s i:Nat} (h:((((s >>> i) % 2:Nat):Int) == 1) = true):Cu s i = true:=by
  have h1:(((s >>> i) % 2:Nat):Int) = 1:=eq_of_beq h
  have h2:(s >>> i) % 2 = 1:=by omega
  simp [Cu,h2]
theorem Apm {s i:Nat} (h:((((s >>> i) % 2:Nat):Int) == 1) = false):Cu s i = false:=by
  have h1:(((s >>> i) % 2:Nat):Int) ≠ 1:=Apl h
  have h2:(s >>> i) % 2 ≠ 1:=by omega
  simp [Cu,h2]
/-- How many bits of eight. -/
def De (s:Nat):Nat:=((List.range 8).map fun k=>(s >>> k) % 2).sum
def Ajd (t:FTest) (s k:Nat):Bool:=Cu s k && (match t.sees[k]? with | some b=>b != 2 | none=>false)
def Ajh (t:FTest) (s k:Nat):Bool:=Cu s k && (match t.sees[k]? with | some b=>b == 1 | none=>false)
def Aen (t:FTest) (s:Nat) (found:Bool):Bool:=if found then t.errs || (List.range t.sees.length).any (Ajd t s) else !(List.range t.sees.length).any (Ajh t s)
end Go.Proofs.YtphgjjmlnkgghaaGreatDoor

namespace Go.Proofs.YtphgjjmlnkgghaaGreatDoor
open Go
def Ada (l:Lab) (s:Nat):Bool:=decide ((De s:Int) ≤ l.most)
def Hr (l:Lab):List Nat:=(List.range (1 <<< l.kinds.length)).filter (Ada l)
def Bw (l:List Nat):List Int:=l.map Int.ofNat
/-- What a result leaves. -/
def Px (l:Lab) (r:Found) (s:Nat):Bool:=match l.tests[r.test.toNat]? with | some t=>Aen t s r.found | none=>false
def Au (l:Lab) (sets:List Nat) (r:Found):List Nat:=sets.filter (Px l r)
def Ba (l:Lab) (rs:List Found):List Nat:=rs.foldl (Au l) (Hr l)
theorem Fc {l:List Nat}:(Bw l).length = l.length:=by simp [Bw]
theorem Ts {l:List Nat} {i:Nat} {z:Int} (h:(Bw l)[i]? = some z):∃ a,l[i]? = some a∧z = (a:Int):=by
  unfold Bw at h
  rw [List.getElem?_map] at h
  obtain ⟨a,ha,rfl⟩:=Option.map_eq_some_iff.1 h
  exact ⟨a,ha,rfl⟩
theorem Yz {l:Lab} {rs:List Found} {i:Nat} {r:Found} (h:rs[i]? = some r):Ba l (rs.take (i + 1)) = Au l (Ba l (rs.take i)) r:=by
  unfold Ba
  rw [List.take_add_one,h,List.foldl_append]; rfl
/-- A valid lab,told without codes. -/
structure LabOk (l:Lab):Prop where
  kinds:Dd l.kinds 4 = 0
  most:0 ≤ l.most∧l.most ≤ (l.kinds.length:Int)
  ntests:l.tests.length ≤ 5
  test:∀ (i:Nat) (t:FTest),l.tests[i]? = some t→Hg t.name = true∧t.sees.length = l.kinds.length
theorem Ll {l:Lab} (h:Gh l = 0):LabOk l:=by
  unfold Gh at h
  rw [Jx] at h
  obtain ⟨h1,h2⟩:=h
  unfold Jy at h2
  split at h2
  · rename_i hin
    split at h2
    · cases h2
    · rename_i hn
      rw [Fx] at h2
      refine ⟨h1,Fz.1 hin,by omega,fun i t ht=>?_⟩
      have h3:=h2 i (List.getElem?_eq_some_iff.1 ht).1
      simp only [Hb,ht] at h3
      split at h3
      · rename_i ha
        split at h3
        · cases h3
        · split at h3
          · rename_i hb; exact ⟨ha,by omega⟩
          · cases h3
      · cases h3
  · cases h2
theorem LabOk.n4 {l:Lab} (h:LabOk l):l.kinds.length ≤ 4:=by have:=Ua h.kinds; omega
theorem Rn {k:Nat} (h:k ≤ 4):1 ≤ 1 <<< k∧1 <<< k ≤ 16:=by
  rcases (by omega:k = 0∨k = 1∨k = 2∨k = 3∨k = 4) with rfl | rfl | rfl | rfl | rfl <;> decide
theorem Qu {l:Lab}:∀ (rs:List Found) (s:List Nat),(rs.foldl (Au l) s).Sublist s
  | [],s=>List.Sublist.refl s
  | r :: rs,s=>(Qu rs (Au l s r)).trans (List.filter_sublist ..)
theorem Qg {l:Lab} (ok:LabOk l) {rs:List Found}:(Ba l rs).length ≤ 16∧∀ a ∈ Ba l rs,a < 16:=by
  have h1:(Ba l rs).Sublist (Hr l):=Qu rs _
  have h2:(Hr l).Sublist (List.range (1 <<< l.kinds.length)):=List.filter_sublist ..
  have h3:=h1.trans h2
  have h4:=(Rn ok.n4).2
  refine ⟨by have:=h3.length_le; rw [List.length_range] at this; omega,fun a ha=>?_⟩
  have:=List.mem_range.1 (h3.subset ha)
  omega
end Go.Proofs.YtphgjjmlnkgghaaGreatDoor

namespace Go.Proofs.YtphgjjmlnkgghaaGreatDoor
open Go
def ResOk (l:Lab) (rs:List Found):Prop:=∀ (i:Nat) (r:Found),rs[i]? = some r→0 ≤ r.test∧r.test < (l.tests.length:Int)
theorem Ank {l:Lab} {rs:List Found} (h:Hv l rs = 0):LabOk l∧ResOk l rs∧rs.length ≤ 8:=by
  unfold Hv at h
  rw [Jx] at h
  obtain ⟨h1,h2⟩:=h
  split at h2
  · cases h2
  · rename_i hn
    rw [Fx] at h2
    refine ⟨Ll h1,fun i r hr=>?_,by omega⟩
    have h3:=h2 i (List.getElem?_eq_some_iff.1 hr).1
    simp only [Vy,hr] at h3
    split at h3
    · rename_i hin; have:=Fz.1 hin; omega
    · cases h3
theorem ResOk.take {l:Lab} {rs:List Found} (h:ResOk l rs) (n:Nat):ResOk l (rs.take n):=fun i r hr=>by
  rw [List.getElem?_take] at hr
  split at hr
  · exact h i r hr
  · cases hr
def Cw (l:Lab) (rs:List Found):Int:=orF (Hv l rs) (if ((Bw (Ba l rs)).length:Int) = 0 then 9 else 0)
theorem Yf {l:Lab} {rs:List Found} (h:Cw l rs = 0):Hv l rs = 0:=by unfold Cw at h; rw [Jx] at h; exact h.1
def Iz (sets:List Nat) (k:Nat):Nat:=(sets.map fun s=>(s >>> k) % 2).sum
def Po (sets:List Nat) (k:Nat):Int:=if Iz sets k = 0 then 2 else if Iz sets k = sets.length then 1 else 0
def Sf (l:Lab) (rs:List Found):List Int:=if Cw l rs = 0 then (List.range l.kinds.length).map (Po (Ba l rs)) else []
theorem Nj {f:Nat→Int} {i:Nat}:(List.range (i + 1)).map f = (List.range i).map f ++ [f i]:=by
  rw [List.range_succ,List.map_append]; rfl
end Go.Proofs.YtphgjjmlnkgghaaGreatDoor

namespace Go.Proofs.YtphgjjmlnkgghaaGreatDoor
open Go
theorem Nl {p q:Nat} (h:p < 2 ^ 63):p >>> q < 2 ^ 63:=Nat.lt_of_le_of_lt (Nat.shiftRight_le p q) h
def Gw (set i:Nat):Bool:=(((set >>> i) &&& 1:Nat):Int) == 1
end Go.Proofs.YtphgjjmlnkgghaaGreatDoor

namespace Go.Proofs.YtphgjjmlnkgghaaGreatDoor
open Go
section
variable {C:Ctx} {e:Env} {ds:List Deferred} {ρ:Ro} {σ:Own} {K:Value→List Deferred→Ro→Own→Prop} {rd:Option Nat} {dd:Option Tmp}
variable {ty:TypeId} {pos:String} {af:Array Edge} {g:Option (Nat × Bool)} {x y:Operand} {v p:Value} {t t':TypeId}
/-- One element of an owned row is stored. -/
theorem Zx {β:Type} {f:β→Value} {xs:List β} {bv:β} {r i j:Nat} (hz:∃ i,C.P.info? t = some i∧i.size = 1) (hx:Af e x = .pointer (some ⟨r,i,none⟩)) (hy:Af e y = f bv) (hs:single (f bv) = true)
    (hj:σ[j]? = some (r,.obj (.cells (xs.map f).toArray t' (0,0)))) (hi:i < xs.length) (h:K undef ds ρ (σ.set j (r,.obj (.cells ((xs.set i bv).map f).toArray t' (0,0))))) :
    wpS C.P ρ (execOp (Af e) ⟨dd,.store t x y,ty,pos,af,g⟩) σ (NextH C K rd ds ρ):=by
  refine Li (vs:=[f bv]) (c:=xs.map f) (c':=(xs.set i bv).map f) hz hx hy ?_ rfl (by simpa using hs) hj (by simpa using Nat.succ_le_of_lt hi) ?_ h
  · revert hs
    cases f bv <;> intro hs <;> first | rfl | (simp [single] at hs)
  · simp only [over,List.map_set]
/-- One element of an owned row is read. -/
theorem Adu {β:Type} {f:β→Value} {xs:List β} {bv:β} {r i j:Nat} (hT:∃ d,C.P.underlying t = some d∧Qv d = false) (hx:Af e x = .pointer (some ⟨r,i,none⟩)) (hj:σ[j]? = some (r,.obj (.cells (xs.map f).toArray t' (0,0)))) (hb:xs[i]? = some bv) (h:K (f bv) ds ρ σ) :
    wpS C.P ρ (execOp (Af e) ⟨dd,.load t x,ty,pos,af,g⟩) σ (NextH C K rd ds ρ) :=
  Dt hT hx hj (by rw [List.getElem?_map,hb]; rfl) h
end
end Go.Proofs.YtphgjjmlnkgghaaGreatDoor

namespace Go.Proofs.YtphgjjmlnkgghaaGreatDoor
open Go
theorem Span.open_ {ρ:Ro} {v:Value} {x:Span} (h:Val ρ v x):v = .agg #[.int .i64 x.low,.int .i64 x.high]∧I64 x.low∧I64 x.high:=by
  obtain ⟨cs,⟨q0,r0,f0,⟨a0,b0⟩,⟨a1,b1⟩⟩,hv⟩:=h
  subst f0
  subst a0
  subst a1
  exact ⟨hv,b0,b1⟩
theorem Span.shut {ρ:Ro} {x:Span} (h0:I64 x.low) (h1:I64 x.high):Val ρ (.agg #[.int .i64 x.low,.int .i64 x.high]) x:=⟨[.int .i64 x.low,.int .i64 x.high],⟨[.int .i64 x.low],[.int .i64 x.high],rfl,⟨rfl,h0⟩,⟨rfl,h1⟩⟩,rfl⟩
theorem FField.open_ {ρ:Ro} {v:Value} {x:FField} (h:Val ρ v x):∃ c0,v = .agg #[.string x.name,.int .i64 x.house,.int .i64 x.grows.low,.int .i64 x.grows.high,c0]∧x.name.size < 2 ^ 60∧I64 x.house∧I64 x.grows.low∧I64 x.grows.high∧Val ρ c0 x.marks:=by
  obtain ⟨cs,⟨q0,r0,f0,⟨a0,b0⟩,⟨q1,r1,f1,⟨a1,b1⟩,⟨q2,r2,f2,⟨d2,d2',e2,⟨a2,b2⟩,⟨a2',b2'⟩⟩,⟨w3,a3,b3⟩⟩⟩⟩,hv⟩:=h
  subst f0
  subst f1
  subst f2
  subst a0
  subst a1
  subst e2
  subst a2
  subst a2'
  subst a3
  exact ⟨w3,hv,b0,b1,b2,b2',Cs.2 b3⟩
theorem FField.shut {ρ:Ro} {x:FField} {c0:Value} (h0:x.name.size < 2 ^ 60) (h1:I64 x.house) (h2:I64 x.grows.low) (h3:I64 x.grows.high) (h4:Val ρ c0 x.marks):Val ρ (.agg #[.string x.name,.int .i64 x.house,.int .i64 x.grows.low,.int .i64 x.grows.high,c0]) x:=⟨[.string x.name,.int .i64 x.house,.int .i64 x.grows.low,.int .i64 x.grows.high,c0],⟨[.string x.name],([.int .i64 x.house] ++ ([.int .i64 x.grows.low,.int .i64 x.grows.high] ++ [c0])),rfl,⟨rfl,h0⟩,⟨[.int .i64 x.house],([.int .i64 x.grows.low,.int .i64 x.grows.high] ++ [c0]),rfl,⟨rfl,h1⟩,⟨[.int .i64 x.grows.low,.int .i64 x.grows.high],[c0],rfl,⟨[.int .i64 x.grows.low],[.int .i64 x.grows.high],rfl,⟨rfl,h2⟩,⟨rfl,h3⟩⟩,⟨c0,rfl,Cs.1 h4⟩⟩⟩⟩,rfl⟩
theorem Sale.open_ {ρ:Ro} {v:Value} {x:Sale} (h:Val ρ v x):∃ c0,v = .agg #[.int .i64 x.grams,c0]∧I64 x.grams∧Val ρ c0 x.sellers:=by
  obtain ⟨cs,⟨q0,r0,f0,⟨a0,b0⟩,⟨w1,a1,b1⟩⟩,hv⟩:=h
  subst f0
  subst a0
  subst a1
  exact ⟨w1,hv,b0,Cs.2 b1⟩
theorem Sale.shut {ρ:Ro} {x:Sale} {c0:Value} (h0:I64 x.grams) (h1:Val ρ c0 x.sellers):Val ρ (.agg #[.int .i64 x.grams,c0]) x:=⟨[.int .i64 x.grams,c0],⟨[.int .i64 x.grams],[c0],rfl,⟨rfl,h0⟩,⟨c0,rfl,Cs.1 h1⟩⟩,rfl⟩
theorem Market.open_ {ρ:Ro} {v:Value} {x:Market} (h:Val ρ v x):∃ c0 c1 c2 c3,v = .agg #[c0,c1,c2,c3]∧Val ρ c0 x.houses∧Val ρ c1 x.marks∧Val ρ c2 x.fields∧Val ρ c3 x.sales:=by
  obtain ⟨cs,⟨q0,r0,f0,⟨w0,a0,b0⟩,⟨q1,r1,f1,⟨w1,a1,b1⟩,⟨q2,r2,f2,⟨w2,a2,b2⟩,⟨w3,a3,b3⟩⟩⟩⟩,hv⟩:=h
  subst f0
  subst f1
  subst f2
  subst a0
  subst a1
  subst a2
  subst a3
  exact ⟨w0,w1,w2,w3,hv,Cs.2 b0,Cs.2 b1,Cs.2 b2,Cs.2 b3⟩
theorem Market.shut {ρ:Ro} {x:Market} {c0 c1 c2 c3:Value} (h0:Val ρ c0 x.houses) (h1:Val ρ c1 x.marks) (h2:Val ρ c2 x.fields) (h3:Val ρ c3 x.sales):Val ρ (.agg #[c0,c1,c2,c3]) x:=⟨[c0,c1,c2,c3],⟨[c0],([c1] ++ ([c2] ++ [c3])),rfl,⟨c0,rfl,Cs.1 h0⟩,⟨[c1],([c2] ++ [c3]),rfl,⟨c1,rfl,Cs.1 h1⟩,⟨[c2],[c3],rfl,⟨c2,rfl,Cs.1 h2⟩,⟨c3,rfl,Cs.1 h3⟩⟩⟩⟩,rfl⟩
theorem FTest.open_ {ρ:Ro} {v:Value} {x:FTest} (h:Val ρ v x):∃ c0,v = .agg #[.string x.name,c0,.bool x.errs]∧x.name.size < 2 ^ 60∧Val ρ c0 x.sees:=by
  obtain ⟨cs,⟨q0,r0,f0,⟨a0,b0⟩,⟨q1,r1,f1,⟨w1,a1,b1⟩,a2⟩⟩,hv⟩:=h
  subst f0
  subst f1
  subst a0
  subst a1
  (have a2':=a2; simp only [Dat.rep] at a2'; subst a2')
  exact ⟨w1,hv,b0,Cs.2 b1⟩
theorem FTest.shut {ρ:Ro} {x:FTest} {c0:Value} (h0:x.name.size < 2 ^ 60) (h1:Val ρ c0 x.sees):Val ρ (.agg #[.string x.name,c0,.bool x.errs]) x:=⟨[.string x.name,c0,.bool x.errs],⟨[.string x.name],([c0] ++ [.bool x.errs]),rfl,⟨rfl,h0⟩,⟨[c0],[.bool x.errs],rfl,⟨c0,rfl,Cs.1 h1⟩,rfl⟩⟩,rfl⟩
theorem Lab.open_ {ρ:Ro} {v:Value} {x:Lab} (h:Val ρ v x):∃ c0 c1,v = .agg #[c0,.int .i64 x.most,c1]∧Val ρ c0 x.kinds∧I64 x.most∧Val ρ c1 x.tests:=by
  obtain ⟨cs,⟨q0,r0,f0,⟨w0,a0,b0⟩,⟨q1,r1,f1,⟨a1,b1⟩,⟨w2,a2,b2⟩⟩⟩,hv⟩:=h
  subst f0
  subst f1
  subst a0
  subst a1
  subst a2
  exact ⟨w0,w2,hv,Cs.2 b0,b1,Cs.2 b2⟩
theorem Lab.shut {ρ:Ro} {x:Lab} {c0 c1:Value} (h0:Val ρ c0 x.kinds) (h1:I64 x.most) (h2:Val ρ c1 x.tests):Val ρ (.agg #[c0,.int .i64 x.most,c1]) x:=⟨[c0,.int .i64 x.most,c1],⟨[c0],([.int .i64 x.most] ++ [c1]),rfl,⟨c0,rfl,Cs.1 h0⟩,⟨[.int .i64 x.most],[c1],rfl,⟨rfl,h1⟩,⟨c1,rfl,Cs.1 h2⟩⟩⟩,rfl⟩
theorem Found.open_ {ρ:Ro} {v:Value} {x:Found} (h:Val ρ v x):v = .agg #[.int .i64 x.test,.bool x.found]∧I64 x.test:=by
  obtain ⟨cs,⟨q0,r0,f0,⟨a0,b0⟩,a1⟩,hv⟩:=h
  subst f0
  subst a0
  (have a1':=a1; simp only [Dat.rep] at a1'; subst a1')
  exact ⟨hv,b0⟩
theorem Found.shut {ρ:Ro} {x:Found} (h0:I64 x.test):Val ρ (.agg #[.int .i64 x.test,.bool x.found]) x:=⟨[.int .i64 x.test,.bool x.found],⟨[.int .i64 x.test],[.bool x.found],rfl,⟨rfl,h0⟩,rfl⟩,rfl⟩
theorem FNode.open_ {ρ:Ro} {v:Value} {x:FNode} (h:Val ρ v x):v = .agg #[.int .i64 x.test,.int .i64 x.found,.int .i64 x.not]∧I64 x.test∧I64 x.found∧I64 x.not:=by
  obtain ⟨cs,⟨q0,r0,f0,⟨a0,b0⟩,⟨q1,r1,f1,⟨a1,b1⟩,⟨a2,b2⟩⟩⟩,hv⟩:=h
  subst f0
  subst f1
  subst a0
  subst a1
  subst a2
  exact ⟨hv,b0,b1,b2⟩
theorem FNode.shut {ρ:Ro} {x:FNode} (h0:I64 x.test) (h1:I64 x.found) (h2:I64 x.not):Val ρ (.agg #[.int .i64 x.test,.int .i64 x.found,.int .i64 x.not]) x:=⟨[.int .i64 x.test,.int .i64 x.found,.int .i64 x.not],⟨[.int .i64 x.test],([.int .i64 x.found] ++ [.int .i64 x.not]),rfl,⟨rfl,h0⟩,⟨[.int .i64 x.found],[.int .i64 x.not],rfl,⟨rfl,h1⟩,⟨rfl,h2⟩⟩⟩,rfl⟩
theorem State.open_ {ρ:Ro} {v:Value} {x:State} (h:Val ρ v x):v = .agg #[.int .i64 x.sets,.int .i64 x.left]∧I64 x.sets∧I64 x.left:=by
  obtain ⟨cs,⟨q0,r0,f0,⟨a0,b0⟩,⟨a1,b1⟩⟩,hv⟩:=h
  subst f0
  subst a0
  subst a1
  exact ⟨hv,b0,b1⟩
theorem State.shut {ρ:Ro} {x:State} (h0:I64 x.sets) (h1:I64 x.left):Val ρ (.agg #[.int .i64 x.sets,.int .i64 x.left]) x:=⟨[.int .i64 x.sets,.int .i64 x.left],⟨[.int .i64 x.sets],[.int .i64 x.left],rfl,⟨rfl,h0⟩,⟨rfl,h1⟩⟩,rfl⟩
theorem Place.open_ {ρ:Ro} {v:Value} {x:Place} (h:Val ρ v x):v = .agg #[.int .i64 x.at_,.int .i64 x.sets]∧I64 x.at_∧I64 x.sets:=by
  obtain ⟨cs,⟨q0,r0,f0,⟨a0,b0⟩,⟨a1,b1⟩⟩,hv⟩:=h
  subst f0
  subst a0
  subst a1
  exact ⟨hv,b0,b1⟩
theorem Place.shut {ρ:Ro} {x:Place} (h0:I64 x.at_) (h1:I64 x.sets):Val ρ (.agg #[.int .i64 x.at_,.int .i64 x.sets]) x:=⟨[.int .i64 x.at_,.int .i64 x.sets],⟨[.int .i64 x.at_],[.int .i64 x.sets],rfl,⟨rfl,h0⟩,⟨rfl,h1⟩⟩,rfl⟩
theorem Probe.open_ {ρ:Ro} {v:Value} {x:Probe} (h:Val ρ v x):v = .agg #[.bool x.errs,.int .i64 x.sure,.int .i64 x.unsure]∧I64 x.sure∧I64 x.unsure:=by
  obtain ⟨cs,⟨q0,r0,f0,a0,⟨q1,r1,f1,⟨a1,b1⟩,⟨a2,b2⟩⟩⟩,hv⟩:=h
  subst f0
  subst f1
  (have a0':=a0; simp only [Dat.rep] at a0'; subst a0')
  subst a1
  subst a2
  exact ⟨hv,b1,b2⟩
theorem Probe.shut {ρ:Ro} {x:Probe} (h0:I64 x.sure) (h1:I64 x.unsure):Val ρ (.agg #[.bool x.errs,.int .i64 x.sure,.int .i64 x.unsure]) x:=⟨[.bool x.errs,.int .i64 x.sure,.int .i64 x.unsure],⟨[.bool x.errs],([.int .i64 x.sure] ++ [.int .i64 x.unsure]),rfl,rfl,⟨[.int .i64 x.sure],[.int .i64 x.unsure],rfl,⟨rfl,h0⟩,⟨rfl,h1⟩⟩⟩,rfl⟩
end Go.Proofs.YtphgjjmlnkgghaaGreatDoor

namespace Go.Proofs.YtphgjjmlnkgghaaGreatDoor
open Go Go.Conc
open Go.ConcN (sumTo sumTo_upd upd_ne upd_same)
/-- It stands at a send of v. -/
def Amv (P:Program) (c:Nat) (v z:Value) (fr:Frame) (cs:List Frame):Prop :=
  ∀ W,stepG P false (G fr cs) W = .comm (G fr cs) #[scase c v z] true .send W #[]
/-- It stands at the close,and only leaves behind it. -/
def Acm (P:Program) (c:Nat) (fr:Frame) (cs:List Frame):Prop :=
  mayWake P (G fr cs) = true∧∃ n g',QuitsIn P n g'∧∀ W s r tm,W.heap[c]? = some (.chan 0 #[] false s r tm) →
    stepG P false (G fr cs) W = .go g' (W.setChan c 0 #[] true s r tm) #[⟨.obj c,false,true⟩,⟨.obj c,true,true⟩]
def noX:Frame→List Frame→Ro→Own→Cy→Prop:=fun _ _ _ _ _=>False
/-- A worker's context. -/
def Wn (P:Program):Ctx:=⟨P,false,noX⟩
/-- A sender: these values,then the close. -/
inductive SendI (P:Program) (c:Nat):List Value→Frame→List Frame→Ro→Own→Prop
  | ghost {vs fr cs ρ σ ρ' σ'}:Ghost ρ σ ρ' σ'→SendI P c vs fr cs ρ' σ'→SendI P c vs fr cs ρ σ
  | step {vs fr cs ρ σ} (K:Frame→List Frame→Own→Prop):Aal (Wn P) fr cs ρ σ K→(∀ fr' cs' σ',K fr' cs' σ'→SendI P c vs fr' cs' ρ σ')→SendI P c vs fr cs ρ σ
  | send {v vs z fr cs ρ σ}:Amv P c v z fr cs→SendI P c vs (fr.finish undef) cs ρ σ→SendI P c (v :: vs) fr cs ρ σ
  | close {fr cs ρ σ}:Acm P c fr cs→SendI P c [] fr cs ρ σ
theorem SendI.of_goes {P:Program} {c:Nat} {vs:List Value} {S:Cy} {fr:Frame} {cs:List Frame} {ρ:Ro} {σ:Own} (h:GoesH (Wn P) S fr cs ρ σ) (hk:∀ fr cs ρ σ,S fr cs ρ σ→SendI P c vs fr cs ρ σ):SendI P c vs fr cs ρ σ:=by
  induction h with
  | stop h=>exact hk _ _ _ _ h
  | ghost hg _ ih=>exact .ghost hg ih
  | step K h1 _ ih=>exact .step K h1 ih
  | ext K h1 _ _=>exact h1.elim
def Jp (σ:Own):Prop:=∀ c vs,(c,Res.recv vs) ∉ σ
def Gg (P:Program) (d:Deferred):Frame:={ (default:Frame) with fn:=P.funcs.size,defers:=[d],mode:=.panicking [goexitEntry] }
/-- It stands at a receive. -/
def Sv (P:Program) (c:Nat) (z:Value) (fr:Frame) (cs:List Frame):Prop :=
  ∀ W,stepG P true (G fr cs) W = .comm (G fr cs) #[rcase c z] true (.recv true) W #[]
/-- WHAT THE FIRST GOROUTINE MAY RELY ON BESIDE ITS OWN STEPS: a go statement whose child sends these values and closes; a receive of the next of them; a receive that finds the channel closed. -/
def Ade (P:Program):Frame→List Frame→Ro→Own→Cy→Prop:=fun fr cs ρ σ K =>
  (∃ d i c vs fr',(∀ W,stepG P true (G fr cs) W = .spawn (G fr' cs) (G (Gg P d) []) W #[])∧Jp σ∧σ[i]? = some (c,Res.chan)∧SendI P c vs (Gg P d) [] ρ []∧K fr' cs ρ (σ.set i (c,.recv vs))) ∨
  (∃ i c v vs z,Sv P c z fr cs∧σ[i]? = some (c,Res.recv (v :: vs))∧K (fr.finish (.tuple #[v,.bool true])) cs ρ (σ.set i (c,.recv vs))) ∨
  (∃ i c z,Sv P c z fr cs∧σ[i]? = some (c,Res.recv [])∧K (fr.finish (.tuple #[z,.bool false])) cs ρ (σ.eraseIdx i))
def Iw (P:Program):Ctx:=⟨P,true,Ade P⟩
def Is (g:Goroutine) (fr:Frame) (cs:List Frame):Prop:=g.status = .running∧g.frame = fr∧g.callers = cs∧g.dying = none
theorem Is.step {P:Program} {main:Bool} {g:Goroutine} {fr:Frame} {cs:List Frame} (h:Is g fr cs) (W:World):stepG P main g W = stepG P main (G fr cs) W :=
  stepG_same h.2.1 h.2.2.1 h.2.2.2 W
theorem Is.of (fr:Frame) (cs:List Frame):Is (G fr cs) fr cs:=⟨rfl,rfl,rfl,rfl⟩
theorem Is.served {fr:Frame} {cs:List Frame} {g:Goroutine} (h:Is g fr cs) (v:Value):Is (Conc.served g v) (fr.finish v) cs:=⟨rfl,by simp [Conc.served,h.2.1],h.2.2.1,h.2.2.2⟩
def Acc (ρ:Ro) (σ:Own) (k:Nat) (wr:Bool):Prop:=(∃ o,(k,Res.obj o) ∈ σ)∨(wr = false∧(ρ k).isSome = true)
def Lx:Loc→Option Nat
  | .cell a=>some a.block
  | .obj r=>some r
  | _=>none
def Akj (ρ:Ro) (σ:Own) (b:Touch):Prop:=b.kind = .plain∧∃ k,Lx b.loc = some k∧Acc ρ σ k b.write
theorem Abe {ρ:Ro} {σ:Own} {es:Array Event} (h:∀ e ∈ es,EvOk ρ σ e) (g:Nat) (fn:FuncId) (pos:String) :
    Wordless (MemOp.ofEvents g fn pos es)∧∀ op ∈ MemOp.ofEvents g fn pos es,op.g = g∧∀ b,op.act.touch? = some b→Akj ρ σ b:=by
  rw [ofEvents_eq]
  refine ⟨fun op hop=>?_,fun op hop=>?_⟩ <;> obtain ⟨e,he,rfl⟩:=Array.mem_map.1 hop
  · refine ofEvent_noMark fun m hm=>?_
    rcases h e he with ⟨a,h1,_⟩ | ⟨r,h1,_⟩ | ⟨m',h1,h2⟩
    · rw [h1] at hm; cases hm
    · rw [h1] at hm; cases hm
    · rw [h1] at hm; cases hm; exact h2
  · refine ⟨rfl,fun b hb=>?_⟩
    obtain ⟨loc,wr,sy⟩:=e
    rcases h _ he with ⟨a,h1,h2,h3⟩ | ⟨r,h1,h2,h3⟩ | ⟨m',h1,h2⟩
    · simp only at h1 h2; subst h1 h2
      have hb':some (⟨.cell a,wr,.plain⟩:Touch) = some b:=hb
      cases hb'
      exact ⟨rfl,a.block,rfl,h3⟩
    · simp only at h1 h2; subst h1 h2
      have hb':some (⟨.obj r,wr,.plain⟩:Touch) = some b:=by cases wr <;> exact hb
      cases hb'
      exact ⟨rfl,r,rfl,h3⟩
    · simp only at h1; subst h1
      have e1:MemAct.ofEvent ⟨.mark m',wr,sy⟩ = .mark m':=by cases wr <;> cases sy <;> rfl
      simp only [e1,h2.touch] at hb
      cases hb
/-- Operations that touch nothing bring no race. -/
theorem Ni {said:Bool} {t u:Trace} (h:¬ Race said t) (hu:∀ op ∈ u,op.act.touch? = none):¬ Race said (t ++ u):=by
  rintro ⟨i,j,hij,⟨a,b,ha,hb,hc⟩,n1,n2⟩
  obtain ⟨x,hx,hxa⟩:=touch_of ha
  obtain ⟨y,hy,hyb⟩:=touch_of hb
  rcases getElem?_append_cases hy with ⟨hj,hy'⟩ | ⟨hj,hyu⟩
  · have hi:i < t.size:=Nat.lt_trans hij hj
    have hx':t[i]? = some x:=by rw [← getElem?_append_old (u:=u) hi]; exact hx
    exact h ⟨i,j,hij,⟨a,b,by simp [Trace.act?,hx',hxa],by simp [Trace.act?,hy',hyb],hc⟩,fun e=>n1 (hb_app u e),fun e=>n2 (hb_app u e)⟩
  · rw [hu y hyu] at hyb; cases hyb
/-- Nobody has touched memory without the first goroutine's knowing it. -/
structure TA (t:Trace):Prop where
  wl:Wordless t
  clean:∀ said,¬ Race said t
  known:∀ i a,touchAt t i = some a→a.loc.isMemory = true→Knows t 0 i
theorem Di {t u:Trace} {i:Nat} {a:Touch} (h:touchAt (t ++ u) i = some a):touchAt t i = some a∨∃ op,(t ++ u)[i]? = some op∧op ∈ u∧op.act.touch? = some a∧t.size ≤ i:=by
  obtain ⟨x,hx,hxa⟩:=touch_of h
  rcases getElem?_append_cases hx with ⟨_,hx'⟩ | ⟨hge,hxu⟩
  · exact .inl (by rw [touchAt_of hx']; exact hxa)
  · exact .inr ⟨x,hx,hxu,hxa,hge⟩
theorem TA.own {t u:Trace} (h:TA t) (hw:Wordless u) (hu:∀ op ∈ u,op.g = 0):TA (t ++ u):=by
  refine ⟨h.wl.append hw,fun said=>noRace_append (h.clean said) hu fun i a ha op _ b _ hc=>h.known i a ha hc.2.1,fun i a ha hm=>?_⟩
  rcases Di ha with h1 | ⟨op,h1,h2,_,_⟩
  · exact (h.known i a h1 hm).app u
  · have:=knows_own h1; rwa [hu op h2] at this
theorem TA.nil:TA #[]:=by
  refine ⟨fun op hop=>by simp at hop,fun said ⟨i,j,_,⟨a,b,ha,_⟩,_⟩=>?_,fun i a ha=>?_⟩
  · simp [Trace.act?] at ha
  · simp [touchAt,Trace.act?] at ha
theorem TA.handed {t:Trace} (h:TA t):t.HandedOver:=by
  intro i g hg hne ⟨x,hx,hm,_⟩
  obtain ⟨q,z,h1,h2,h3⟩:=h.known i x hx hm
  refine ⟨q,by simp [Trace.g?,h1,h2],h3.resolve_left ?_⟩
  rintro rfl
  simp [Trace.g?,h1,h2] at hg
  exact hne hg.symm
/-- What the one of two who run beside each other has touched: its own,or (to read it) what is shared. -/
def Th (A Sh:Nat→Prop) (c:Nat) (a:Touch):Prop :=
  (a.kind = .plain∧∃ k,Lx a.loc = some k∧(A k∨(a.write = false∧Sh k)))∨(a.loc = .obj c∧a.kind = .atomic)
/-- While a worker (number j) runs beside the first goroutine. -/
structure TB (t:Trace) (j c:Nat) (Am Aw Sh:Nat→Prop):Prop where
  wl:Wordless t
  clean:∀ said,¬ Race said t
  k0:∀ i a,touchAt t i = some a→a.loc.isMemory = true→Knows t 0 i∨((∃ op,t[i]? = some op∧op.g = j)∧Th Aw Sh c a)
  kj:∀ i a,touchAt t i = some a→a.loc.isMemory = true→Knows t j i∨Th Am Sh c a
/-- Two touches that conflict: not a worker's and the first goroutine's. -/
theorem Ul {A B Sh:Nat→Prop} {c:Nat} {a b:Touch} {said:Bool} (hd:∀ k,A k→B k→False) (hA:∀ k,A k→Sh k→False) (hB:∀ k,B k→Sh k→False) (hc:¬ B c∧¬ Sh c)
    (ha:Th A Sh c a) (hb:b.kind = .plain∧∃ k,Lx b.loc = some k∧(B k∨(b.write = false∧Sh k))) (h:a.conflicts said b):False:=by
  obtain ⟨hl,_,hwr,_⟩:=h
  obtain ⟨_,k',hk',hb⟩:=hb
  rcases ha with ⟨_,k,hk,ha⟩ | ha
  · rw [hl,hk'] at hk
    cases hk
    rcases ha with ha | ⟨ha1,ha2⟩ <;> rcases hb with hb | ⟨hb1,hb2⟩
    · exact hd _ ha hb
    · exact hA _ ha hb2
    · exact hB _ hb ha2
    · rcases hwr with h | h
      · rw [ha1] at h; cases h
      · rw [hb1] at h; cases h
  · rw [← hl,ha.1] at hk'
    cases hk'
    rcases hb with hb | ⟨_,hb⟩
    · exact hc.1 hb
    · exact hc.2 hb
section
variable {t u:Trace} {j c:Nat} {Am Aw Sh Am' Aw':Nat→Prop}
theorem Th.mono {A A':Nat→Prop} (h:∀ k,A k→A' k) {a:Touch} (ha:Th A Sh c a):Th A' Sh c a :=
  ha.imp (fun ⟨h1,k,h2,h3⟩=>⟨h1,k,h2,h3.imp (h k) id⟩) id
/-- The first goroutine acts. -/
theorem TB.main (h:TB t j c Am Aw Sh) (hj:j ≠ 0) (hsub:∀ k,Am k→Am' k) (hd:∀ k,Aw k→Am' k→False) (hS:∀ k,Am' k→Sh k→False) (hS':∀ k,Aw k→Sh k→False) (hc:¬ Am' c∧¬ Sh c)
    (hw:Wordless u) (hu:∀ op ∈ u,op.g = 0∧∀ b,op.act.touch? = some b→b.kind = .plain∧∃ k,Lx b.loc = some k∧(Am' k∨(b.write = false∧Sh k))):TB (t ++ u) j c Am' Aw Sh:=by
  refine ⟨h.wl.append hw,fun said=>noRace_append (h.clean said) (fun op hop=>(hu op hop).1) fun i a ha op hop b hb hcf=>?_,fun i a ha hm=>?_,fun i a ha hm=>?_⟩
  · rcases h.k0 i a ha hcf.2.1 with h1 | ⟨_,h1⟩
    · exact h1
    · exact (Ul hd hS' hS hc h1 ((hu op hop).2 b hb) hcf).elim
  · rcases Di ha with h1 | ⟨op,h1,h2,_,_⟩
    · rcases h.k0 i a h1 hm with h3 | ⟨⟨op,h4,h5⟩,h3⟩
      · exact .inl (h3.app u)
      · exact .inr ⟨⟨op,by rw [getElem?_append_old (lt_size_of_getElem? h4)]; exact h4,h5⟩,h3⟩
    · have:=knows_own h1; rw [(hu op h2).1] at this; exact .inl this
  · rcases Di ha with h1 | ⟨op,h1,h2,h3,hge⟩
    · exact (h.kj i a h1 hm).imp (·.app u) (·.mono hsub)
    · exact .inr (.inl ((hu op h2).2 a h3))
/-- The worker acts. -/
theorem TB.work (h:TB t j c Am Aw Sh) (hsub:∀ k,Aw k→Aw' k) (hd:∀ k,Am k→Aw' k→False) (hS:∀ k,Aw' k→Sh k→False) (hS':∀ k,Am k→Sh k→False) (hc:¬ Aw' c∧¬ Sh c)
    (hw:Wordless u) (hu:∀ op ∈ u,op.g = j∧∀ b,op.act.touch? = some b→b.kind = .plain∧∃ k,Lx b.loc = some k∧(Aw' k∨(b.write = false∧Sh k))):TB (t ++ u) j c Am Aw' Sh:=by
  refine ⟨h.wl.append hw,fun said=>noRace_append (h.clean said) (fun op hop=>(hu op hop).1) fun i a ha op hop b hb hcf=>?_,fun i a ha hm=>?_,fun i a ha hm=>?_⟩
  · rcases h.kj i a ha hcf.2.1 with h1 | h1
    · exact h1
    · exact (Ul hd hS' hS hc h1 ((hu op hop).2 b hb) hcf).elim
  · rcases Di ha with h1 | ⟨op,h1,h2,h3,hge⟩
    · rcases h.k0 i a h1 hm with h3 | ⟨⟨op,h4,h5⟩,h3⟩
      · exact .inl (h3.app u)
      · exact .inr ⟨⟨op,by rw [getElem?_append_old (lt_size_of_getElem? h4)]; exact h4,h5⟩,h3.mono hsub⟩
    · exact .inr ⟨⟨op,h1,(hu op h2).1⟩,.inl ((hu op h2).2 a h3)⟩
  · rcases Di ha with h1 | ⟨op,h1,h2,_,_⟩
    · exact (h.kj i a h1 hm).imp (·.app u) id
    · have:=knows_own h1; rw [(hu op h2).1] at this; exact .inl this
/-- Operations that touch nothing. -/
theorem TB.mute (h:TB t j c Am Aw Sh) (hw:Wordless u) (hu:∀ op ∈ u,op.act.touch? = none):TB (t ++ u) j c Am Aw Sh:=by
  refine ⟨h.wl.append hw,fun said=>Ni (h.clean said) hu,fun i a ha hm=>?_,fun i a ha hm=>?_⟩
  · rcases Di ha with h1 | ⟨op,_,h2,h3,_⟩
    · rcases h.k0 i a h1 hm with h3 | ⟨⟨op,h4,h5⟩,h3⟩
      · exact .inl (h3.app u)
      · exact .inr ⟨⟨op,by rw [getElem?_append_old (lt_size_of_getElem? h4)]; exact h4,h5⟩,h3⟩
    · rw [hu op h2] at h3; cases h3
  · rcases Di ha with h1 | ⟨op,_,h2,h3,_⟩
    · exact (h.kj i a h1 hm).imp (·.app u) id
    · rw [hu op h2] at h3; cases h3
/-- A go statement. -/
theorem TA.fork (h:TA t) (hj:j ≠ 0) {x y:MemOp} (hx:x.g = 0∧x.act = .go j) (hy:y.g = j∧y.act = .start):TB ((t.push x).push y) j c Am (fun _=>False) Sh:=by
  have e:(t.push x).push y = t ++ #[x,y]:=by rw [Array.push_eq_append,Array.push_eq_append,Array.append_assoc]; rfl
  have hmute:∀ op ∈ #[x,y],op.act.touch? = none:=fun op hop=>by
    have:op = x∨op = y:=by simpa using hop
    rcases this with rfl | rfl
    · rw [hx.2]; rfl
    · rw [hy.2]; rfl
  have hwl:Wordless #[x,y]:=fun op hop m hm=>by
    have:op = x∨op = y:=by simpa using hop
    rcases this with rfl | rfl
    · rw [hx.2] at hm; cases hm
    · rw [hy.2] at hm; cases hm
  rw [e]
  have hwl':=h.wl.append hwl
  have hxat:(t ++ #[x,y])[t.size]? = some x:=by rw [Array.getElem?_append_right (Nat.le_refl _)]; simp
  have hyat:(t ++ #[x,y])[t.size + 1]? = some y:=by rw [Array.getElem?_append_right (Nat.le_succ _)]; simp
  have hsp:HappensBefore (t ++ #[x,y]) t.size (t.size + 1):=.single (.inr ⟨.spawn (child:=j) (by simp [Trace.act?,hxat,hx.2]) (by simp [Trace.act?,hyat,hy.2]) (by simp [Trace.g?,hyat,hy.1]),hwl'.heard hxat,hwl'.heard hyat⟩)
  refine ⟨hwl',fun said=>Ni (h.clean said) hmute,fun i a ha hm=>?_,fun i a ha hm=>?_⟩
  · rcases Di ha with h1 | ⟨op,_,h2,h3,_⟩
    · exact .inl ((h.known i a h1 hm).app _)
    · rw [hmute op h2] at h3; cases h3
  · rcases Di ha with h1 | ⟨op,_,h2,h3,_⟩
    · obtain ⟨q,z,hq,hz,hb⟩:=h.known i a h1 hm
      have hlt:=lt_size_of_getElem? hq
      have h4:HappensBefore (t ++ #[x,y]) q t.size:=hb_po hlt (by rw [getElem?_append_old hlt]; exact hq) hxat (hz.trans hx.1.symm)
      exact .inl ⟨t.size + 1,y,hyat,hy.1,.inr ((hb.app _).hb (h4.trans hsp))⟩
    · rw [hmute op h2] at h3; cases h3
/-- The worker has closed its channel; nothing more is to come of it. -/
structure TC (t:Trace) (j c pc:Nat) (Aw Sh:Nat→Prop):Prop where
  wl:Wordless t
  clean:∀ said,¬ Race said t
  at_:∃ op,t[pc]? = some op∧op.g = j∧op.act = .close c
  k0:∀ i a,touchAt t i = some a→a.loc.isMemory = true→Knows t 0 i∨(Before t i pc∧Th Aw Sh c a)
theorem TB.close (h:TB t j c Am Aw Sh) (fn:FuncId) (pos:String) (hcm:¬ Am c∧¬ Sh c) :
    ∃ pc,TC (t ++ MemOp.ofEvents j fn pos #[⟨.obj c,false,true⟩,⟨.obj c,true,true⟩]) j c pc Aw Sh:=by
  have e1:MemOp.ofEvents j fn pos #[⟨.obj c,false,true⟩,⟨.obj c,true,true⟩] = #[{ g:=j,fn,pos,act:=.access ⟨.obj c,false,true⟩ },{ g:=j,fn,pos,act:=.close c }]:=by
    rw [ofEvents_eq]; simp [MemAct.ofEvent]
  rw [e1]
  generalize hxx:({ g:=j,fn,pos,act:=.access ⟨.obj c,false,true⟩ }:MemOp) = x
  generalize hyy:({ g:=j,fn,pos,act:=.close c }:MemOp) = y
  have hwl:Wordless #[x,y]:=fun op hop m hm=>by
    have:op = x∨op = y:=by simpa using hop
    rcases this with rfl | rfl
    · subst hxx; cases hm
    · subst hyy; cases hm
  have hwl':=h.wl.append hwl
  have hxat:(t ++ #[x,y])[t.size]? = some x:=by rw [Array.getElem?_append_right (Nat.le_refl _)]; simp
  have hyat:(t ++ #[x,y])[t.size + 1]? = some y:=by rw [Array.getElem?_append_right (Nat.le_succ _)]; simp
  have hg:∀ op ∈ #[x,y],op.g = j:=fun op hop=>by
    have:op = x∨op = y:=by simpa using hop
    rcases this with rfl | rfl
    · subst hxx; rfl
    · subst hyy; rfl
  have htouch:∀ op ∈ #[x,y],∀ b,op.act.touch? = some b→b = ⟨.obj c,false,.atomic⟩:=fun op hop b hb=>by
    have:op = x∨op = y:=by simpa using hop
    rcases this with rfl | rfl
    · subst hxx
      have hb':some (⟨.obj c,false,.atomic⟩:Touch) = some b:=hb
      cases hb'; rfl
    · subst hyy; cases hb
  refine ⟨t.size + 1,hwl',fun said=>noRace_append (h.clean said) hg fun i a ha op hop b hb hcf=>?_,⟨y,hyat,by subst hyy; rfl,by subst hyy; rfl⟩,fun i a ha hm=>?_⟩
  · rcases h.kj i a ha hcf.2.1 with h1 | h1
    · exact h1
    · exfalso
      rw [htouch op hop b hb] at hcf
      obtain ⟨hl,_,hwr,hk⟩:=hcf
      rcases h1 with ⟨h1,k,h2,h3⟩ | h1
      · rw [hl] at h2
        cases h2
        rcases h3 with h3 | ⟨_,h3⟩
        · exact hcm.1 h3
        · exact hcm.2 h3
      · -- an access to the channel itself is atomic
        rw [h1.2] at hk
        rcases hk with hk | hk | ⟨_,hk,_⟩ <;> cases hk
  · rcases Di ha with h1 | ⟨op,h1,h2,h3,hge⟩
    · rcases h.k0 i a h1 hm with h3 | ⟨⟨op,h4,h5⟩,h3⟩
      · exact .inl (h3.app _)
      · have hlt:=lt_size_of_getElem? h4
        exact .inr ⟨.inr (hb_po (by omega) (by rw [getElem?_append_old hlt]; exact h4) hyat (by rw [h5]; subst hyy; rfl)),h3⟩
    · refine .inr ⟨?_,.inr (by rw [htouch op h2 a h3]; exact ⟨rfl,rfl⟩)⟩
      have hi:i = t.size∨i = t.size + 1:=by
        have:=lt_size_of_getElem? h1
        simp at this
        omega
      rcases hi with rfl | rfl
      · exact .inr (hb_po (by omega) hxat hyat (by subst hxx hyy; rfl))
      · exact .inl rfl
end
end Go.Proofs.YtphgjjmlnkgghaaGreatDoor

namespace Go.Proofs.YtphgjjmlnkgghaaGreatDoor
open Go Go.Conc Go.RowKit
open Go.ConcN (sumTo sumTo_upd upd_ne upd_same)
theorem Fo {P:Program} {g g' b:Goroutine} {w':World} (h:b.status = .running∨b.status = .finished):woken P g g' w' b = b:=by
  unfold Go.Conc.woken
  split
  · exact again_running _ h
  · rfl
section
variable {P:Program} {Pst:Value→World→Prop}
/-- From here the run comes to the first goroutine's return,and all is well. -/
def My (P:Program) (Pst:Value→World→Prop) (m:Machine) (t:Trace):Prop :=
  ∃ N last o w' t',runNT P (N + 1) m t = (.ended o w',t')∧runN P N m = .next last∧step P last = .ended o w'∧Go.Conc.Good P Pst last o w' t'
theorem Aft {m m':Machine} {t:Trace} {ops:Array MemOp} (hs:stepT P m = (.next m',ops)) (h:My P Pst m' (t ++ ops)):My P Pst m t:=by
  obtain ⟨N,last,o,w',t',h1,h2,h3,h4⟩:=h
  exact ⟨N + 1,last,o,w',t',by rw [runNT_succ_next hs]; exact h1,by rw [runN_succ_next hs]; exact h2,h3,h4⟩
theorem Ajq {m:Machine} {t:Trace} {ops:Array MemOp} {o:Outcome} {w':World} (hs:stepT P m = (.ended o w',ops)) (h:Go.Conc.Good P Pst m o w' (t ++ ops)):My P Pst m t :=
  ⟨0,m,o,w',t ++ ops,by simp [runNT,hs],rfl,by simp [step,hs],h⟩
/-- What a step of the machine brings: it goes on and wins,or it is the good end. -/
def Out (P:Program) (Pst:Value→World→Prop) (gs:Array Goroutine) (t:Trace) (r:Stepped × Array MemOp):Prop :=
  (∃ M ops,r = (.next M,ops)∧My P Pst M (t ++ ops))∨(∃ o wE ops,r = (.ended o wE,ops)∧∀ w sl,Go.Conc.Good P Pst (crowd gs w sl) o wE (t ++ ops))
theorem Jn {gs:Array Goroutine} {w:World} {sl:Option (Nat × Nat)} {t:Trace} (ha:∀ g ∈ gs,awake g) (hr:∃ (i:Nat) (g:Goroutine),gs[i]? = some g∧g.status = .running)
    (h:∀ (i:Nat) (g:Goroutine) (d:Nat) (sl':Option (Nat × Nat)),gs[i]? = some g→g.status = .running→Out P Pst gs t (runT P (crowd gs (w.at d) sl') i)):My P Pst (crowd gs w sl) t:=by
  obtain ⟨i,g,d,sl',hi,hg,hst⟩:=crowd_pick (P:=P) (w:=w) (sl:=sl) ha hr
  rcases h i g d sl' hi hg with ⟨M,ops,h1,h2⟩ | ⟨o,wE,ops,h1,h2⟩
  · exact Aft (hst.trans h1) h2
  · exact Ajq (hst.trans h1) (h2 w sl)
/-- The others only leave. -/
def St (P:Program) (gs:Array Goroutine) (q:Nat→Nat):Prop:=∀ i g,i ≠ 0→gs[i]? = some g→QuitsIn P (q i) g
theorem Qd {gs:Array Goroutine} {q:Nat→Nat} (h:St P gs q) {g0:Goroutine} (h0:gs[0]? = some g0) (hr:awake g0):∀ g ∈ gs,awake g:=by
  intro g hg
  obtain ⟨i,hi⟩:=Array.getElem?_of_mem hg
  by_cases hi0:i = 0
  · subst hi0; rw [h0] at hi; cases hi; exact hr
  · rcases (h i g hi0 hi).status with hs | hs <;> intro t e <;> rw [hs] at e <;> cases e
theorem Ip {g:Goroutine} (h:g.status = .running):awake g:=fun t e=>by rw [h] at e; cases e
/-- A leaver's step. -/
theorem Hf {gs:Array Goroutine} {w:World} {sl:Option (Nat × Nat)} {q:Nat→Nat} {i:Nat} {g:Goroutine} (hi:gs[i]? = some g) (hi0:i ≠ 0) (hg:g.status = .running) (hq:QuitsIn P (q i) g) :
    ∃ g' k,q i = k + 1∧QuitsIn P k g'∧runT P (crowd gs w sl) i = (.next (crowd ((gs.map (woken P g g' w)).setIfInBounds i g') w sl),#[]):=by
  cases hk:q i with
  | zero=>rw [hk] at hq; rw [show g.status = .finished from hq] at hg; cases hg
  | succ k =>
    rw [hk] at hq
    rcases hq with hq | ⟨_,g',hst,hq⟩
    · rw [hq] at hg; cases hg
    · have hb:(i == 0) = false:=by simpa using hi0
      exact ⟨g',k,rfl,hq,by rw [runT_crowd_go hi (by rw [hb]; exact hst w)]; rfl⟩
theorem Jv {gs:Array Goroutine} {i j:Nat} {f:Goroutine→Goroutine} {g' x:Goroutine} (h:((gs.map f).setIfInBounds i g')[j]? = some x):(j = i∧x = g')∨(j ≠ i∧∃ y,gs[j]? = some y∧x = f y):=by
  by_cases hj:i = j
  · subst hj
    by_cases hlt:i < (gs.map f).size
    · rw [Array.getElem?_setIfInBounds_self_of_lt hlt] at h; exact .inl ⟨rfl,(Option.some.inj h).symm⟩
    · rw [Array.getElem?_eq_none (by simpa using hlt)] at h; cases h
  · rw [Array.getElem?_setIfInBounds_ne hj,Array.getElem?_map] at h
    obtain ⟨y,hy,rfl⟩:=Option.map_eq_some_iff.1 h
    exact .inr ⟨Ne.symm hj,y,hy,rfl⟩
theorem Ei {gs:Array Goroutine} {i j:Nat} {f:Goroutine→Goroutine} {g' y:Goroutine} (hj:j ≠ i) (h:gs[j]? = some y):((gs.map f).setIfInBounds i g')[j]? = some (f y):=by
  rw [Array.getElem?_setIfInBounds_ne (Ne.symm hj),Array.getElem?_map,h]; rfl
theorem Lf {gs:Array Goroutine} {i:Nat} {f:Goroutine→Goroutine} {g' y:Goroutine} (h:gs[i]? = some y):((gs.map f).setIfInBounds i g')[i]? = some g':=by
  have hlt:=(Array.getElem?_eq_some_iff.1 h).1
  rw [Array.getElem?_setIfInBounds_self_of_lt (by simpa using hlt)]
/-- BESIDE THOSE WHO ONLY LEAVE: it is enough to look at the first goroutine's step. -/
theorem Yg {g0:Goroutine} {t:Trace} {w:World} {sz:Nat} (hg0:g0.status = .running)
    (hmain:∀ gs q d sl,gs[0]? = some g0→gs.size = sz→St P gs q→Out P Pst gs t (runT P (crowd gs (w.at d) sl) 0)) :
    ∀ (m:Nat) (gs:Array Goroutine) (d:Nat) (sl:Option (Nat × Nat)) (q:Nat→Nat),sumTo gs.size q ≤ m→gs.size = sz→gs[0]? = some g0→St P gs q→My P Pst (crowd gs (w.at d) sl) t:=by
  intro m
  induction m with
  | zero =>
    intro gs d sl q hm hsz h0 ho
    refine Jn (Qd ho h0 (Ip hg0)) ⟨0,g0,h0,hg0⟩ fun i g d' sl' hi hg=>?_
    by_cases hi0:i = 0
    · subst hi0; exact hmain gs q d' sl' h0 hsz ho
    · obtain ⟨g',k,hk,_⟩:=Hf (w:=w) (sl:=sl) hi hi0 hg (ho i g hi0 hi)
      have:=Go.ConcN.le_sumTo (f:=q) (Array.getElem?_eq_some_iff.1 hi).1
      omega
  | succ m ih =>
    intro gs d sl q hm hsz h0 ho
    refine Jn (Qd ho h0 (Ip hg0)) ⟨0,g0,h0,hg0⟩ fun i g d' sl' hi hg=>?_
    by_cases hi0:i = 0
    · subst hi0; exact hmain gs q d' sl' h0 hsz ho
    · obtain ⟨g',k,hk,hq,hrun⟩:=Hf (w:=w.at d') (sl:=sl') hi hi0 hg (ho i g hi0 hi)
      have hsum:=sumTo_upd q k id (Array.getElem?_eq_some_iff.1 hi).1
      refine .inl ⟨_,_,hrun,?_⟩
      rw [Array.append_empty]
      refine ih _ d' sl' (Go.ConcN.upd q i k) ?_ (by simpa using hsz) ?_ ?_
      · simp only [id] at hsum
        simp only [Array.size_setIfInBounds,Array.size_map]
        have e1:sumTo gs.size (fun a=>Go.ConcN.upd q i k a) = sumTo gs.size (Go.ConcN.upd q i k):=rfl
        have e2:sumTo gs.size (fun a=>q a) = sumTo gs.size q:=rfl
        rw [e1,e2,hk] at hsum
        omega
      · rw [Ei (Ne.symm hi0) h0,Fo (.inl hg0)]
      · intro j x hj hx
        rcases Jv hx with ⟨rfl,rfl⟩ | ⟨hji,y,hy,rfl⟩
        · rw [upd_same]; exact hq
        · have hqj:=ho j y hj hy
          rw [Fo hqj.status,upd_ne q k hji]; exact hqj
end
/-- The first goroutine holds (ρ,σ) at frame fr (it runs,or is parked at a receive); a worker,number j,holds (ρw,σw) at fw (it runs,or is parked at a send). -/
structure PhB (P:Program) (W0:World) (fr:Frame) (cs:List Frame) (ρ:Ro) (σ:Own) (c:Nat) (vs:List Value) (fw:Frame) (cw:List Frame) (ρw:Ro) (σw:Own) (j:Nat) (Am Aw Sh:Nat→Prop) (mp:Option Value) (wp:Option (Value × Value))
    (gs:Array Goroutine) (w:World) (t:Trace) (q:Nat→Nat):Prop where
  g0:mp = none→∃ g,gs[0]? = some g∧Is g fr cs
  g0p:∀ z,mp = some z→gs[0]? = some (parked (G fr cs) #[rcase c z] (.recv true))
  gj:wp = none→∃ g,gs[j]? = some g∧Is g fw cw
  gjp:∀ v z,wp = some (v,z)→gs[j]? = some (parked (G fw cw) #[scase c v z] .send)
  j0:j ≠ 0
  oth:∀ i g,i ≠ 0→i ≠ j→gs[i]? = some g→QuitsIn P (q i) g
  sat:Sat ρ σ w
  satw:Sat ρw σw w
  ch:∃ s r tm,w.heap[c]? = some (.chan 0 #[] false s r tm)
  hc:(c,Res.recv vs) ∈ σ
  one:∀ c' vs',(c',Res.recv vs') ∈ σ→c' = c
  nrw:Jp σw
  newk:∀ b ∈ keys σ,W0.heap.size ≤ b
  neww:∀ b ∈ keys σw,W0.heap.size ≤ b
  below:Below W0.heap.size W0 w
  am:∀ b r,(b,r) ∈ σ→(∀ vs,r ≠ .recv vs)→Am b
  aw:∀ b ∈ keys σw,Aw b
  rm:∀ b,(ρ b).isSome = true→Sh b∨Am b
  rw_:∀ b,(ρw b).isSome = true→Sh b∨Aw b
  dmw:∀ b,Am b→Aw b→False
  dms:∀ b,Am b→Sh b→False
  dws:∀ b,Aw b→Sh b→False
  ncm:¬ Am c
  ncw:¬ Aw c
  ncs:¬ Sh c
  lt:∀ b,Am b∨Aw b∨Sh b→b < w.heap.size
  tr:TB t j c Am Aw Sh
/-- The worker has closed its channel. -/
structure PhC (P:Program) (W0:World) (fr:Frame) (cs:List Frame) (ρ:Ro) (σ:Own) (c:Nat) (j:Nat) (Am Aw Sh:Nat→Prop) (pc:Nat) (gs:Array Goroutine) (w:World) (t:Trace) (q:Nat→Nat):Prop where
  g0:∃ g,gs[0]? = some g∧Is g fr cs
  oth:St P gs q
  sat:Sat ρ σ w
  ch:∃ s r tm,w.heap[c]? = some (.chan 0 #[] true s r tm)
  hc:(c,Res.recv []) ∈ σ
  one:∀ c' vs',(c',Res.recv vs') ∈ σ→c' = c
  newk:∀ b ∈ keys σ,W0.heap.size ≤ b
  below:Below W0.heap.size W0 w
  am:∀ b r,(b,r) ∈ σ→(∀ vs,r ≠ .recv vs)→Am b
  rm:∀ b,(ρ b).isSome = true→Sh b∨Am b
  dmw:∀ b,Am b→Aw b→False
  dms:∀ b,Am b→Sh b→False
  dws:∀ b,Aw b→Sh b→False
  ncm:¬ Am c
  ncs:¬ Sh c
  lt:∀ b,Am b∨Aw b∨Sh b→b < w.heap.size
  tr:TC t j c pc Aw Sh
/-- Alone,but for those who only leave. -/
structure PhA (P:Program) (W0:World) (fr:Frame) (cs:List Frame) (ρ:Ro) (σ:Own) (gs:Array Goroutine) (w:World) (t:Trace) (q:Nat→Nat):Prop where
  g0:∃ g,gs[0]? = some g∧Is g fr cs
  oth:St P gs q
  sat:Sat ρ σ w
  nr:Jp σ
  newk:∀ b ∈ keys σ,W0.heap.size ≤ b
  below:Below W0.heap.size W0 w
  tr:TA t
section
variable {P:Program} {W0:World} {fr:Frame} {cs:List Frame} {ρ:Ro} {σ:Own} {c:Nat} {vs:List Value} {fw:Frame} {cw:List Frame} {ρw:Ro} {σw:Own} {j:Nat} {Am Aw Sh:Nat→Prop} {mp:Option Value} {wp:Option (Value × Value)}
  {gs:Array Goroutine} {w:World} {t:Trace} {q:Nat→Nat}
theorem Sat.at_ (h:Sat ρ σ w) (d:Nat):Sat ρ σ (w.at d):=⟨h.ro,h.own,h.nd,h.dj⟩
theorem Sy {W0:World} (h:Below W0.heap.size W0 w) (d:Nat):Below W0.heap.size W0 (w.at d):=⟨h.os,h.tape,h.output,h.size,h.block⟩
theorem PhB.at_ (h:PhB P W0 fr cs ρ σ c vs fw cw ρw σw j Am Aw Sh mp wp gs w t q) (d:Nat):PhB P W0 fr cs ρ σ c vs fw cw ρw σw j Am Aw Sh mp wp gs (w.at d) t q :=
  { h with sat:=h.sat.at_ d,satw:=h.satw.at_ d,ch:=h.ch,below:=Sy h.below d,lt:=h.lt }
theorem PhC.at_ {pc:Nat} (h:PhC P W0 fr cs ρ σ c j Am Aw Sh pc gs w t q) (d:Nat):PhC P W0 fr cs ρ σ c j Am Aw Sh pc gs (w.at d) t q :=
  { h with sat:=h.sat.at_ d,ch:=h.ch,below:=Sy h.below d,lt:=h.lt }
theorem PhA.at_ (h:PhA P W0 fr cs ρ σ gs w t q) (d:Nat):PhA P W0 fr cs ρ σ gs (w.at d) t q :=
  { h with sat:=h.sat.at_ d,below:=Sy h.below d }
/-- A step that leaves alone what is held keeps it. -/
theorem Sat.kept {W W':World} (h:Sat ρ σ W) (hk:∀ b,(b ∈ keys σ∨(ρ b).isSome = true)→W'.heap[b]? = W.heap[b]?):Sat ρ σ W':=by
  refine ⟨fun b o hb=>?_,fun p hp=>?_,h.nd,h.dj⟩
  · have:=h.ro b o hb
    exact ⟨by rw [hk b (.inr (by rw [hb]; rfl))]; exact this.1,this.2⟩
  · have:=h.own p hp
    have e:=hk p.1 (.inl (Du (r:=p.2) hp))
    obtain ⟨b,r⟩:=p
    cases r with
    | obj o=>exact ⟨by rw [e]; exact this.1,this.2⟩
    | chan=>obtain ⟨s,r,tm,hh⟩:=this; exact ⟨s,r,tm,by rw [e]; exact hh⟩
    | recv vs=>obtain ⟨s,r,cl,tm,hh⟩:=this; exact ⟨s,r,cl,tm,by rw [e]; exact hh⟩
theorem Le {W0 W W':World} {ρ:Ro} {σ σ':Own} (hb:Below W0.heap.size W0 W) (hn:∀ b ∈ keys σ,W0.heap.size ≤ b) (h:Trans ρ σ W σ' W'):Below W0.heap.size W0 W' :=
  ⟨h.os.trans hb.os,h.tape.trans hb.tape,h.output.trans hb.output,Nat.le_trans hb.size h.size,fun k hk=>by
    rw [h.frame k (Nat.lt_of_lt_of_le hk hb.size) (fun o ho=>absurd (hn k (Du ho)) (by omega))]; exact hb.block k hk⟩
theorem Mn {W0 W W':World} {ρ:Ro} {σ σ':Own} (hb:Below W0.heap.size W0 W) (hn:∀ b ∈ keys σ,W0.heap.size ≤ b) (h:Trans ρ σ W σ' W'):∀ b ∈ keys σ',W0.heap.size ≤ b:=fun b hb'=>by
  rcases h.keys b hb' with h1 | ⟨h1,_⟩
  · exact hn b h1
  · exact Nat.le_trans hb.size h1
/-- The operations that a step of one's own lists,as the trace's laws take them. -/
theorem Ud {es:Array Event} {A:Nat→Prop} (hes:∀ e ∈ es,EvOk ρ σ e) (ha:∀ b o,(b,Res.obj o) ∈ σ→A b) (hr:∀ b,(ρ b).isSome = true→Sh b∨A b) (g:Nat) (fn:FuncId) (pos:String) :
    Wordless (MemOp.ofEvents g fn pos es)∧∀ op ∈ MemOp.ofEvents g fn pos es,op.g = g∧∀ b,op.act.touch? = some b→b.kind = .plain∧∃ k,Lx b.loc = some k∧(A k∨(b.write = false∧Sh k)):=by
  obtain ⟨h1,h2⟩:=Abe hes g fn pos
  refine ⟨h1,fun op hop=>⟨(h2 op hop).1,fun b hb=>?_⟩⟩
  obtain ⟨hk,k,hl,hacc⟩:=(h2 op hop).2 b hb
  refine ⟨hk,k,hl,?_⟩
  rcases hacc with ⟨o,ho⟩ | ⟨hw,hs⟩
  · exact .inl (ha k o ho)
  · exact (hr k hs).elim (fun h=>.inr ⟨hw,h⟩) .inl
/-- THE FIRST GOROUTINE's OWN STEP. -/
theorem PhB.main {fr':Frame} {cs':List Frame} {w':World} {σ':Own} {es:Array Event} {g':Goroutine} (h:PhB P W0 fr cs ρ σ c vs fw cw ρw σw j Am Aw Sh none wp gs w t q) (ht:Trans ρ σ w σ' w') (hes:∀ e ∈ es,EvOk ρ σ' e)
    (g:Goroutine) (hg0:gs[0]? = some g) (hg':Is g' fr' cs') (fn:FuncId) (pos:String) :
    PhB P W0 fr' cs' ρ σ' c vs fw cw ρw σw j (fun b=>Am b∨(w.heap.size ≤ b∧b < w'.heap.size)) Aw Sh none wp ((gs.map (woken P g g' w')).setIfInBounds 0 g') w' (t ++ MemOp.ofEvents 0 fn pos es) q:=by
  have hch:∃ s r tm,w'.heap[c]? = some (.chan 0 #[] false s r tm):=by
    obtain ⟨s,r,tm,hh⟩:=h.ch
    refine ⟨s,r,tm,?_⟩
    rw [ht.frame c (Dq hh) fun o ho=>h.ncm (h.am c _ ho (by simp))]; exact hh
  have ham:∀ b r,(b,r) ∈ σ'→(∀ vs,r ≠ .recv vs)→Am b∨(w.heap.size ≤ b∧b < w'.heap.size):=fun b r hb hr=>by
    rcases ht.keys b (Du hb) with h1 | h1
    · obtain ⟨⟨b',r'⟩,hr',e⟩:=List.mem_map.1 h1
      simp only at e; subst e
      refine .inl (h.am _ r' hr' fun vs e=>hr vs ?_)
      subst e
      exact ht.sat.uniq hb ((ht.ends _ _).2 hr')
    · exact .inr h1
  have hrm:∀ b,(ρ b).isSome = true→Sh b∨(Am b∨(w.heap.size ≤ b∧b < w'.heap.size)):=fun b hb=>(h.rm b hb).imp id .inl
  obtain ⟨o1,o2⟩:=Ud (A:=fun b=>Am b∨(w.heap.size ≤ b∧b < w'.heap.size)) hes (fun b o hb=>ham b _ hb (by simp)) hrm 0 fn pos
  have hclt:c < w.heap.size:=by obtain ⟨s,r,tm,hh⟩:=h.ch; exact Dq hh
  have hdmw:∀ b,(Am b∨(w.heap.size ≤ b∧b < w'.heap.size))→Aw b→False:=fun b h1 h2=>h1.elim (fun h1=>h.dmw b h1 h2) fun h1=>absurd (h.lt b (.inr (.inl h2))) (by omega)
  have hdms:∀ b,(Am b∨(w.heap.size ≤ b∧b < w'.heap.size))→Sh b→False:=fun b h1 h2=>h1.elim (fun h1=>h.dms b h1 h2) fun h1=>absurd (h.lt b (.inr (.inr h2))) (by omega)
  have hncm:¬ (Am c∨(w.heap.size ≤ c∧c < w'.heap.size)):=fun h1=>h1.elim h.ncm fun h1=>by omega
  exact {
    g0:=fun _=>⟨g',Lf hg0,hg'⟩
    g0p:=fun z e=>by cases e
    gj:=fun e=>by
      obtain ⟨x,hx,hi⟩:=h.gj e
      exact ⟨x,by rw [Ei h.j0 hx,Fo (.inl hi.1)],hi⟩
    gjp:=fun v z e=>by
      obtain ⟨s,r,tm,hh⟩:=hch
      rw [Ei h.j0 (h.gjp v z e),woken_send_open _ _ hh]
    j0:=h.j0
    oth:=fun i x hi hij hx=>by
      rcases Jv hx with ⟨e,_⟩ | ⟨_,y,hy,rfl⟩
      · exact absurd e hi
      · have:=h.oth i y hi hij hy
        rw [Fo this.status]; exact this
    sat:=ht.sat
    satw:=h.satw.kept fun b hb=>by
      have hab:Aw b∨Sh b:=hb.elim (fun hb=>.inl (h.aw b hb)) fun hb=>(h.rw_ b hb).symm
      refine ht.frame b (h.lt b (.inr hab)) fun o ho=>?_
      have:=h.am b _ ho (by simp)
      exact hab.elim (h.dmw b this) (h.dms b this)
    ch:=hch
    hc:=(ht.ends _ _).2 h.hc
    one:=fun c' vs' hc'=>h.one c' vs' ((ht.ends _ _).1 hc')
    nrw:=h.nrw
    newk:=Mn h.below h.newk ht
    neww:=h.neww
    below:=Le h.below h.newk ht
    am:=ham
    aw:=h.aw
    rm:=hrm
    rw_:=h.rw_
    dmw:=hdmw
    dms:=hdms
    dws:=h.dws
    ncm:=hncm
    ncw:=h.ncw
    ncs:=h.ncs
    lt:=fun b hb=>by
      rcases hb with (hb | hb) | hb
      · exact Nat.lt_of_lt_of_le (h.lt b (.inl hb)) ht.size
      · exact hb.2
      · exact Nat.lt_of_lt_of_le (h.lt b (.inr hb)) ht.size
    tr:=h.tr.main h.j0 (fun _=>.inl) (fun k h1 h2=>hdmw k h2 h1) hdms h.dws ⟨hncm,h.ncs⟩ o1 o2 }
theorem PhC.main {fr':Frame} {cs':List Frame} {w':World} {σ':Own} {es:Array Event} {g':Goroutine} {pc:Nat} (h:PhC P W0 fr cs ρ σ c j Am Aw Sh pc gs w t q) (ht:Trans ρ σ w σ' w') (hes:∀ e ∈ es,EvOk ρ σ' e)
    (g:Goroutine) (hg0:gs[0]? = some g) (hg':Is g' fr' cs') (fn:FuncId) (pos:String) :
    PhC P W0 fr' cs' ρ σ' c j (fun b=>Am b∨(w.heap.size ≤ b∧b < w'.heap.size)) Aw Sh pc ((gs.map (woken P g g' w')).setIfInBounds 0 g') w' (t ++ MemOp.ofEvents 0 fn pos es) q:=by
  have hch:∃ s r tm,w'.heap[c]? = some (.chan 0 #[] true s r tm):=by
    obtain ⟨s,r,tm,hh⟩:=h.ch
    refine ⟨s,r,tm,?_⟩
    rw [ht.frame c (Dq hh) fun o ho=>h.ncm (h.am c _ ho (by simp))]; exact hh
  have ham:∀ b r,(b,r) ∈ σ'→(∀ vs,r ≠ .recv vs)→Am b∨(w.heap.size ≤ b∧b < w'.heap.size):=fun b r hb hr=>by
    rcases ht.keys b (Du hb) with h1 | h1
    · obtain ⟨⟨b',r'⟩,hr',e⟩:=List.mem_map.1 h1
      simp only at e; subst e
      refine .inl (h.am _ r' hr' fun vs e=>hr vs ?_)
      subst e
      exact ht.sat.uniq hb ((ht.ends _ _).2 hr')
    · exact .inr h1
  have hrm:∀ b,(ρ b).isSome = true→Sh b∨(Am b∨(w.heap.size ≤ b∧b < w'.heap.size)):=fun b hb=>(h.rm b hb).imp id .inl
  obtain ⟨o1,o2⟩:=Ud (A:=fun b=>Am b∨(w.heap.size ≤ b∧b < w'.heap.size)) hes (fun b o hb=>ham b _ hb (by simp)) hrm 0 fn pos
  have hclt:c < w.heap.size:=by obtain ⟨s,r,tm,hh⟩:=h.ch; exact Dq hh
  have hdmw:∀ b,(Am b∨(w.heap.size ≤ b∧b < w'.heap.size))→Aw b→False:=fun b h1 h2=>h1.elim (fun h1=>h.dmw b h1 h2) fun h1=>absurd (h.lt b (.inr (.inl h2))) (by omega)
  have hdms:∀ b,(Am b∨(w.heap.size ≤ b∧b < w'.heap.size))→Sh b→False:=fun b h1 h2=>h1.elim (fun h1=>h.dms b h1 h2) fun h1=>absurd (h.lt b (.inr (.inr h2))) (by omega)
  have hncm:¬ (Am c∨(w.heap.size ≤ c∧c < w'.heap.size)):=fun h1=>h1.elim h.ncm fun h1=>by omega
  exact {
    g0:=⟨g',Lf hg0,hg'⟩
    oth:=fun i x hi hx=>by
      rcases Jv hx with ⟨e,_⟩ | ⟨_,y,hy,rfl⟩
      · exact absurd e hi
      · have:=h.oth i y hi hy
        rw [Fo this.status]; exact this
    sat:=ht.sat
    ch:=hch
    hc:=(ht.ends _ _).2 h.hc
    one:=fun c' vs' hc'=>h.one c' vs' ((ht.ends _ _).1 hc')
    newk:=Mn h.below h.newk ht
    below:=Le h.below h.newk ht
    am:=ham
    rm:=hrm
    dmw:=hdmw
    dms:=hdms
    dws:=h.dws
    ncm:=hncm
    ncs:=h.ncs
    lt:=fun b hb=>by
      rcases hb with (hb | hb) | hb
      · exact Nat.lt_of_lt_of_le (h.lt b (.inl hb)) ht.size
      · exact hb.2
      · exact Nat.lt_of_lt_of_le (h.lt b (.inr hb)) ht.size
    tr:=by
      obtain ⟨op,h1,h2,h3⟩:=h.tr.at_
      refine ⟨h.tr.wl.append o1,fun said=>noRace_append (h.tr.clean said) (fun op hop=>(o2 op hop).1) fun i a ha op hop b hb hcf=>?_,⟨op,by rw [getElem?_append_old (lt_size_of_getElem? h1)]; exact h1,h2,h3⟩,fun i a ha hm=>?_⟩
      · rcases h.tr.k0 i a ha hcf.2.1 with h1 | ⟨_,h1⟩
        · exact h1
        · exact (Ul (fun k h1 h2=>hdmw k h2 h1) h.dws hdms ⟨hncm,h.ncs⟩ h1 ((o2 op hop).2 b hb) hcf).elim
      · rcases Di ha with h1 | ⟨op,h1,h2,_,_⟩
        · exact (h.tr.k0 i a h1 hm).imp (·.app _) fun ⟨h2,h3⟩=>⟨h2.app _,h3⟩
        · have:=knows_own h1; rw [(o2 op h2).1] at this; exact .inl this }
theorem PhA.main {fr':Frame} {cs':List Frame} {w':World} {σ':Own} {es:Array Event} {g':Goroutine} (h:PhA P W0 fr cs ρ σ gs w t q) (ht:Trans ρ σ w σ' w') (hes:∀ e ∈ es,EvOk ρ σ' e)
    (g:Goroutine) (hg0:gs[0]? = some g) (hg':Is g' fr' cs') (fn:FuncId) (pos:String) :
    PhA P W0 fr' cs' ρ σ' ((gs.map (woken P g g' w')).setIfInBounds 0 g') w' (t ++ MemOp.ofEvents 0 fn pos es) q :=
  { g0:=⟨g',Lf hg0,hg'⟩
    oth:=fun i x hi hx=>by
      rcases Jv hx with ⟨e,_⟩ | ⟨_,y,hy,rfl⟩
      · exact absurd e hi
      · have:=h.oth i y hi hy
        rw [Fo this.status]; exact this
    sat:=ht.sat
    nr:=fun c' vs' hc'=>h.nr c' vs' ((ht.ends _ _).1 hc')
    newk:=Mn h.below h.newk ht
    below:=Le h.below h.newk ht
    tr:=by
      obtain ⟨o1,o2⟩:=Abe hes 0 fn pos
      exact h.tr.own o1 fun op hop=>(o2 op hop).1 }
/-- THE WORKER's OWN STEP. -/
theorem PhB.work {fw':Frame} {cw':List Frame} {w':World} {σw':Own} {es:Array Event} {g':Goroutine} (h:PhB P W0 fr cs ρ σ c vs fw cw ρw σw j Am Aw Sh mp none gs w t q) (ht:Trans ρw σw w σw' w') (hes:∀ e ∈ es,EvOk ρw σw' e)
    (g:Goroutine) (hgj:gs[j]? = some g) (hg':Is g' fw' cw') (fn:FuncId) (pos:String) :
    PhB P W0 fr cs ρ σ c vs fw' cw' ρw σw' j Am (fun b=>Aw b∨(w.heap.size ≤ b∧b < w'.heap.size)) Sh mp none ((gs.map (woken P g g' w')).setIfInBounds j g') w' (t ++ MemOp.ofEvents j fn pos es) q:=by
  have hch:∃ s r tm,w'.heap[c]? = some (.chan 0 #[] false s r tm):=by
    obtain ⟨s,r,tm,hh⟩:=h.ch
    refine ⟨s,r,tm,?_⟩
    rw [ht.frame c (Dq hh) fun o ho=>h.ncw (h.aw c (Du ho))]; exact hh
  have haw:∀ b ∈ keys σw',Aw b∨(w.heap.size ≤ b∧b < w'.heap.size):=fun b hb=>(ht.keys b hb).imp (h.aw b) id
  have hrw:∀ b,(ρw b).isSome = true→Sh b∨(Aw b∨(w.heap.size ≤ b∧b < w'.heap.size)):=fun b hb=>(h.rw_ b hb).imp id .inl
  obtain ⟨o1,o2⟩:=Ud (A:=fun b=>Aw b∨(w.heap.size ≤ b∧b < w'.heap.size)) hes (fun b o hb=>haw b (Du hb)) hrw j fn pos
  have hclt:c < w.heap.size:=by obtain ⟨s,r,tm,hh⟩:=h.ch; exact Dq hh
  have hdmw:∀ b,Am b→(Aw b∨(w.heap.size ≤ b∧b < w'.heap.size))→False:=fun b h2 h1=>h1.elim (fun h1=>h.dmw b h2 h1) fun h1=>absurd (h.lt b (.inl h2)) (by omega)
  have hdws:∀ b,(Aw b∨(w.heap.size ≤ b∧b < w'.heap.size))→Sh b→False:=fun b h1 h2=>h1.elim (fun h1=>h.dws b h1 h2) fun h1=>absurd (h.lt b (.inr (.inr h2))) (by omega)
  have hncw:¬ (Aw c∨(w.heap.size ≤ c∧c < w'.heap.size)):=fun h1=>h1.elim h.ncw fun h1=>by omega
  exact {
    g0:=fun e=>by
      obtain ⟨x,hx,hi⟩:=h.g0 e
      exact ⟨x,by rw [Ei (Ne.symm h.j0) hx,Fo (.inl hi.1)],hi⟩
    g0p:=fun z e=>by
      obtain ⟨s,r,tm,hh⟩:=hch
      rw [Ei (Ne.symm h.j0) (h.g0p z e),woken_recv_open _ _ hh]
    gj:=fun _=>⟨g',Lf hgj,hg'⟩
    gjp:=fun v z e=>by cases e
    j0:=h.j0
    oth:=fun i x hi hij hx=>by
      rcases Jv hx with ⟨e,_⟩ | ⟨_,y,hy,rfl⟩
      · exact absurd e hij
      · have:=h.oth i y hi hij hy
        rw [Fo this.status]; exact this
    sat:=h.sat.kept fun b hb=>by
      have hlt:b < w.heap.size:=hb.elim (fun hb=>h.sat.key_lt hb) fun hb=>(h.rm b hb).elim (fun x=>h.lt b (.inr (.inr x))) fun x=>h.lt b (.inl x)
      refine ht.frame b hlt fun o ho=>?_
      have hA:=h.aw b (Du ho)
      rcases hb with hb | hb
      · obtain ⟨⟨b',r⟩,hr,e⟩:=List.mem_map.1 hb
        simp only at e; subst e
        cases r with
        | obj o'=>exact h.dmw _ (h.am _ _ hr (by simp)) hA
        | chan=>exact h.dmw _ (h.am _ _ hr (by simp)) hA
        | recv vs'=>rw [h.one _ _ hr] at hA; exact h.ncw hA
      · exact (h.rm b hb).elim (h.dws b hA) fun x=>h.dmw b x hA
    satw:=ht.sat
    ch:=hch
    hc:=h.hc
    one:=h.one
    nrw:=fun c' vs' hc'=>h.nrw c' vs' ((ht.ends _ _).1 hc')
    newk:=h.newk
    neww:=Mn h.below h.neww ht
    below:=Le h.below h.neww ht
    am:=h.am
    aw:=haw
    rm:=h.rm
    rw_:=hrw
    dmw:=hdmw
    dms:=h.dms
    dws:=hdws
    ncm:=h.ncm
    ncw:=hncw
    ncs:=h.ncs
    lt:=fun b hb=>by
      rcases hb with hb | (hb | hb) | hb
      · exact Nat.lt_of_lt_of_le (h.lt b (.inl hb)) ht.size
      · exact Nat.lt_of_lt_of_le (h.lt b (.inr (.inl hb))) ht.size
      · exact hb.2
      · exact Nat.lt_of_lt_of_le (h.lt b (.inr (.inr hb))) ht.size
    tr:=h.tr.work (fun _=>.inl) hdmw hdws h.dms ⟨hncw,h.ncs⟩ o1 o2 }
end
end Go.Proofs.YtphgjjmlnkgghaaGreatDoor

namespace Go.Proofs.YtphgjjmlnkgghaaGreatDoor
open Go Go.Conc Go.RowKit
open Go.ConcN (sumTo sumTo_upd upd_ne upd_same)
section
variable {P:Program} {Pst:Value→World→Prop} {W0:World} {fr:Frame} {cs:List Frame} {ρ:Ro} {σ:Own} {c:Nat} {vs:List Value} {fw:Frame} {cw:List Frame} {ρw:Ro} {σw:Own} {j:Nat} {Am Aw Sh:Nat→Prop} {mp:Option Value} {wp:Option (Value × Value)}
  {gs:Array Goroutine} {w:World} {t:Trace} {q:Nat→Nat}
theorem PhB.ghostw {ρw':Ro} {σw':Own} (hg:Ghost ρw σw ρw' σw') (h:PhB P W0 fr cs ρ σ c vs fw cw ρw σw j Am Aw Sh mp wp gs w t q):PhB P W0 fr cs ρ σ c vs fw cw ρw' σw' j Am Aw Sh mp wp gs w t q :=
  { h with
    satw:=hg.sat _ h.satw
    nrw:=fun c' vs' hc'=>h.nrw c' vs' ((hg.ends _ _).1 hc')
    neww:=fun b hb=>h.neww b (hg.keys b hb)
    aw:=fun b hb=>h.aw b (hg.keys b hb)
    rw_:=fun b hb=>(hg.dom b hb).elim (h.rw_ b) fun ⟨o,ho⟩=>.inr (h.aw b (Du ho)) }
theorem Xv {ρ':Ro} {σ':Own} (hg:Ghost ρ σ ρ' σ') (h:∀ b r,(b,r) ∈ σ→(∀ vs,r ≠ .recv vs)→Am b) (b:Nat) (r:Res) (hb:(b,r) ∈ σ') (hr:∀ vs,r ≠ .recv vs):Am b:=by
  cases r with
  | obj o=>obtain ⟨o',ho'⟩:=hg.objs b o hb; exact h b _ ho' (by simp)
  | chan=>exact h b _ (hg.chans b hb) (by simp)
  | recv vs=>exact absurd rfl (hr vs)
theorem PhB.ghost {ρ':Ro} {σ':Own} (hg:Ghost ρ σ ρ' σ') (h:PhB P W0 fr cs ρ σ c vs fw cw ρw σw j Am Aw Sh mp wp gs w t q):PhB P W0 fr cs ρ' σ' c vs fw cw ρw σw j Am Aw Sh mp wp gs w t q :=
  { h with
    sat:=hg.sat _ h.sat
    hc:=(hg.ends _ _).2 h.hc
    one:=fun c' vs' hc'=>h.one c' vs' ((hg.ends _ _).1 hc')
    newk:=fun b hb=>h.newk b (hg.keys b hb)
    am:=Xv hg h.am
    rm:=fun b hb=>(hg.dom b hb).elim (h.rm b) fun ⟨o,ho⟩=>.inr (h.am b _ ho (by simp)) }
theorem PhC.ghost {ρ':Ro} {σ':Own} {pc:Nat} (hg:Ghost ρ σ ρ' σ') (h:PhC P W0 fr cs ρ σ c j Am Aw Sh pc gs w t q):PhC P W0 fr cs ρ' σ' c j Am Aw Sh pc gs w t q :=
  { h with
    sat:=hg.sat _ h.sat
    hc:=(hg.ends _ _).2 h.hc
    one:=fun c' vs' hc'=>h.one c' vs' ((hg.ends _ _).1 hc')
    newk:=fun b hb=>h.newk b (hg.keys b hb)
    am:=Xv hg h.am
    rm:=fun b hb=>(hg.dom b hb).elim (h.rm b) fun ⟨o,ho⟩=>.inr (h.am b _ ho (by simp)) }
theorem PhA.ghost {ρ':Ro} {σ':Own} (hg:Ghost ρ σ ρ' σ') (h:PhA P W0 fr cs ρ σ gs w t q):PhA P W0 fr cs ρ' σ' gs w t q :=
  { h with
    sat:=hg.sat _ h.sat
    nr:=fun c' vs' hc'=>h.nr c' vs' ((hg.ends _ _).1 hc')
    newk:=fun b hb=>h.newk b (hg.keys b hb) }
theorem Qf (g:Goroutine) (k:Array CommCase) (s:CommShape):awake (parked g k s):=fun t e=>by cases e
theorem PhB.awake (h:PhB P W0 fr cs ρ σ c vs fw cw ρw σw j Am Aw Sh mp wp gs w t q):∀ g ∈ gs,Conc.awake g:=by
  intro g hg
  obtain ⟨i,hi⟩:=Array.getElem?_of_mem hg
  by_cases hi0:i = 0
  · subst hi0
    cases hm:mp with
    | none=>obtain ⟨x,hx,his⟩:=h.g0 hm; rw [hx] at hi; cases hi; exact Ip his.1
    | some z=>rw [h.g0p z hm] at hi; cases hi; exact Qf _ _ _
  · by_cases hij:i = j
    · subst hij
      cases hm:wp with
      | none=>obtain ⟨x,hx,his⟩:=h.gj hm; rw [hx] at hi; cases hi; exact Ip his.1
      | some z=>obtain ⟨v,z⟩:=z; rw [h.gjp v z hm] at hi; cases hi; exact Qf _ _ _
    · rcases (h.oth i g hi0 hij hi).status with hs | hs <;> intro t e <;> rw [hs] at e <;> cases e
/-- A leaver's step. -/
theorem PhB.leave {i k:Nat} {g g':Goroutine} (h:PhB P W0 fr cs ρ σ c vs fw cw ρw σw j Am Aw Sh mp wp gs w t q) (hi:gs[i]? = some g) (hi0:i ≠ 0) (hij:i ≠ j) (hq:QuitsIn P k g') :
    PhB P W0 fr cs ρ σ c vs fw cw ρw σw j Am Aw Sh mp wp ((gs.map (woken P g g' w)).setIfInBounds i g') w t (Go.ConcN.upd q i k):=by
  obtain ⟨s,r,tm,hh⟩:=h.ch
  exact { h with
    g0:=fun e=>by
      obtain ⟨x,hx,his⟩:=h.g0 e
      exact ⟨x,by rw [Ei (Ne.symm hi0) hx,Fo (.inl his.1)],his⟩
    g0p:=fun z e=>by rw [Ei (Ne.symm hi0) (h.g0p z e),woken_recv_open _ _ hh]
    gj:=fun e=>by
      obtain ⟨x,hx,his⟩:=h.gj e
      exact ⟨x,by rw [Ei (Ne.symm hij) hx,Fo (.inl his.1)],his⟩
    gjp:=fun v z e=>by rw [Ei (Ne.symm hij) (h.gjp v z e),woken_send_open _ _ hh]
    oth:=fun n x hn hnj hx=>by
      rcases Jv hx with ⟨rfl,rfl⟩ | ⟨hni,y,hy,rfl⟩
      · rw [upd_same]; exact hq
      · have:=h.oth n y hn hnj hy
        rw [Fo this.status,upd_ne q k hni]; exact this }
def WGo (P:Program) (c:Nat) (vs:List Value) (fw:Frame) (cw:List Frame) (ρw:Ro) (σw:Own):Option (Value × Value)→Prop
  | none=>SendI P c vs fw cw ρw σw
  | some (v,_)=>∃ vs',vs = v :: vs'∧SendI P c vs' (fw.finish undef) cw ρw σw
theorem Dw {gs:Array Goroutine} {i k:Nat} {x:Goroutine} (h:k ≠ i):(gs.setIfInBounds i x)[k]? = gs[k]?:=Array.getElem?_setIfInBounds_ne (Ne.symm h)
theorem Fq {gs:Array Goroutine} {i:Nat} {x y:Goroutine} (h:gs[i]? = some y):(gs.setIfInBounds i x)[i]? = some x :=
  Array.getElem?_setIfInBounds_self_of_lt (Array.getElem?_eq_some_iff.1 h).1
theorem Hq {w:World} {c cap s r:Nat} {buf:Array Value} {cl tm:Bool} (h:c < w.heap.size):(w.setChan c cap buf cl s r tm).heap[c]? = some (.chan cap buf cl s r tm):=by
  simp [World.setChan,h]
theorem Fi {w:World} {c cap s r k:Nat} {buf:Array Value} {cl tm:Bool} (h:k ≠ c):(w.setChan c cap buf cl s r tm).heap[k]? = w.heap[k]?:=by
  simp [World.setChan,Ne.symm h]
/-- THE TWO MEET at the channel. -/
theorem PhB.meet {i:Nat} {v:Value} {vs':List Value} {gs':Array Goroutine} {u:Trace} {s r:Nat} {tm:Bool} (h:PhB P W0 fr cs ρ σ c (v :: vs') fw cw ρw σw j Am Aw Sh mp wp gs w t q)
    (hi:σ[i]? = some (c,Res.recv (v :: vs'))) (h0:∃ g,gs'[0]? = some g∧Is g (fr.finish (.tuple #[v,.bool true])) cs) (hj:∃ g,gs'[j]? = some g∧Is g (fw.finish undef) cw)
    (ho:∀ k,k ≠ 0→k ≠ j→gs'[k]? = gs[k]?) (hw:Wordless u) (hu:∀ op ∈ u,op.act.touch? = none) :
    PhB P W0 (fr.finish (.tuple #[v,.bool true])) cs ρ (σ.set i (c,.recv vs')) c vs' (fw.finish undef) cw ρw σw j Am Aw Sh none none gs' (w.setChan c 0 #[] false s r tm) (t ++ u) q:=by
  have hclt:c < w.heap.size:=by obtain ⟨s,r,tm,hh⟩:=h.ch; exact Dq hh
  have hkeys:=Tt (r':=.recv vs') hi
  have hmem:∀ p,p ∈ σ.set i (c,Res.recv vs')→p = (c,.recv vs')∨(p ∈ σ∧p.1 ≠ c):=fun p hp=>Gq hi h.sat.nd hp
  have hcW:W0.heap.size ≤ c:=h.newk c (Du h.hc)
  refine {
    g0:=fun _=>h0
    g0p:=fun z e=>by cases e
    gj:=fun _=>hj
    gjp:=fun v z e=>by cases e
    j0:=h.j0
    oth:=fun k x hk hkj hx=>by rw [ho k hk hkj] at hx; exact h.oth k x hk hkj hx
    sat:=?_
    satw:=h.satw.kept fun b hb=>Fi fun e=>?_
    ch:=⟨s,r,tm,Hq hclt⟩
    hc:=?_
    one:=fun c' vs'' hc'=>?_
    nrw:=h.nrw
    newk:=by rw [hkeys]; exact h.newk
    neww:=h.neww
    below:=⟨h.below.os,h.below.tape,h.below.output,by simpa [World.setChan] using h.below.size,fun k hk=>by rw [Fi (by omega)]; exact h.below.block k hk⟩
    am:=fun b x hb hx=>?_
    aw:=h.aw
    rm:=h.rm
    rw_:=h.rw_
    dmw:=h.dmw
    dms:=h.dms
    dws:=h.dws
    ncm:=h.ncm
    ncw:=h.ncw
    ncs:=h.ncs
    lt:=fun b hb=>by simpa [World.setChan] using h.lt b hb
    tr:=h.tr.mute hw hu }
  · refine ⟨fun b o hb=>?_,fun p hp=>?_,by rw [hkeys]; exact h.sat.nd,by rw [hkeys]; exact h.sat.dj⟩
    · have hbc:b ≠ c:=fun e=>by
        have:=h.sat.dj c (Du h.hc)
        rw [← e,hb] at this; cases this
      rw [Fi hbc]; exact h.sat.ro b o hb
    · rcases hmem p hp with rfl | ⟨hp',hpc⟩
      · exact ⟨s,r,false,tm,Hq hclt⟩
      · have:=h.sat.own p hp'
        obtain ⟨b,x⟩:=p
        simp only at hpc
        cases x with
        | obj o=>exact ⟨by rw [Fi hpc]; exact this.1,this.2⟩
        | chan=>obtain ⟨s,r,tm,hh⟩:=this; exact ⟨s,r,tm,by rw [Fi hpc]; exact hh⟩
        | recv ws=>obtain ⟨s,r,cl,tm,hh⟩:=this; exact ⟨s,r,cl,tm,by rw [Fi hpc]; exact hh⟩
  · subst e
    rcases hb with hb | hb
    · exact h.ncw (h.aw _ hb)
    · exact (h.rw_ _ hb).elim h.ncs h.ncw
  · have hlt:i < σ.length:=by
      rcases Nat.lt_or_ge i σ.length with h' | h'
      · exact h'
      · rw [List.getElem?_eq_none h'] at hi; cases hi
    exact List.mem_of_getElem? (i:=i) (by rw [List.getElem?_set]; simp [hlt])
  · rcases hmem _ hc' with e | ⟨hc'',_⟩
    · injection e with e _
    · exact h.one _ _ hc''
  · rcases hmem _ hb with e | ⟨hb',_⟩
    · injection e with _ e; exact absurd e (hx vs')
    · exact h.am b x hb' hx
/-- THE WORKER CLOSES. -/
theorem PhB.close {n:Nat} {g g':Goroutine} {s r:Nat} {tm:Bool} (h:PhB P W0 fr cs ρ σ c [] fw cw ρw σw j Am Aw Sh mp none gs w t q) (hgj:gs[j]? = some g) (hmw:mayWake P g = true) (hq:QuitsIn P n g') (fn:FuncId) (pos:String) :
    ∃ pc,PhC P W0 fr cs ρ σ c j Am Aw Sh pc ((gs.map (woken P g g' (w.setChan c 0 #[] true s r tm))).setIfInBounds j g') (w.setChan c 0 #[] true s r tm) (t ++ MemOp.ofEvents j fn pos #[⟨.obj c,false,true⟩,⟨.obj c,true,true⟩]) (Go.ConcN.upd q j n):=by
  have hclt:c < w.heap.size:=by obtain ⟨s,r,tm,hh⟩:=h.ch; exact Dq hh
  have hcW:W0.heap.size ≤ c:=h.newk c (Du h.hc)
  obtain ⟨pc,htc⟩:=h.tr.close fn pos ⟨h.ncm,h.ncs⟩
  refine ⟨pc,{
    g0:=?_
    oth:=fun i x hi hx=>?_
    sat:=?_
    ch:=⟨s,r,tm,Hq hclt⟩
    hc:=h.hc
    one:=h.one
    newk:=h.newk
    below:=⟨h.below.os,h.below.tape,h.below.output,by simpa [World.setChan] using h.below.size,fun k hk=>by rw [Fi (by omega)]; exact h.below.block k hk⟩
    am:=h.am
    rm:=h.rm
    dmw:=h.dmw
    dms:=h.dms
    dws:=h.dws
    ncm:=h.ncm
    ncs:=h.ncs
    lt:=fun b hb=>by simpa [World.setChan] using h.lt b hb
    tr:=htc }⟩
  · cases hm:mp with
    | none =>
      obtain ⟨x,hx,his⟩:=h.g0 hm
      exact ⟨x,by rw [Ei (Ne.symm h.j0) hx,Fo (.inl his.1)],his⟩
    | some z =>
      refine ⟨{ parked (G fr cs) #[rcase c z] (.recv true) with status:=.running },?_,rfl,rfl,rfl,rfl⟩
      rw [Ei (Ne.symm h.j0) (h.g0p z hm)]
      have hst:(g'.status != .blocked && g'.status != .waiting) = true:=by rcases hq.status with hs | hs <;> rw [hs] <;> rfl
      have:woken P g g' (w.setChan c 0 #[] true s r tm) (parked (G fr cs) #[rcase c z] (.recv true)) = (parked (G fr cs) #[rcase c z] (.recv true)).again (w.setChan c 0 #[] true s r tm):=by
        unfold woken
        rw [if_pos (by rw [hmw,Bool.true_and]; exact hst)]
      rw [this,again_recv_closed (Hq hclt)]
  · rcases Jv hx with ⟨rfl,rfl⟩ | ⟨hij,y,hy,rfl⟩
    · rw [upd_same]; exact hq
    · have:=h.oth i y hi hij hy
      rw [Fo this.status,upd_ne q n hij]; exact this
  · refine ⟨fun b o hb=>?_,fun p hp=>?_,h.sat.nd,h.sat.dj⟩
    · have hbc:b ≠ c:=fun e=>by
        have:=h.sat.dj c (Du h.hc)
        rw [← e,hb] at this; cases this
      rw [Fi hbc]; exact h.sat.ro b o hb
    · have:=h.sat.own p hp
      obtain ⟨b,x⟩:=p
      cases x with
      | obj o =>
        have hpc:b ≠ c:=fun e=>by subst e; exact absurd (h.sat.uniq hp h.hc) (by simp)
        exact ⟨by rw [Fi hpc]; exact this.1,this.2⟩
      | chan =>
        have hpc:b ≠ c:=fun e=>by subst e; exact absurd (h.sat.uniq hp h.hc) (by simp)
        obtain ⟨s,r,tm,hh⟩:=this; exact ⟨s,r,tm,by rw [Fi hpc]; exact hh⟩
      | recv ws =>
        have:=h.one _ _ hp
        subst this
        exact ⟨s,r,true,tm,Hq hclt⟩
theorem Zl {gs:Array Goroutine} {q:Nat→Nat} {i k m:Nat} {g:Goroutine} (hi:gs[i]? = some g) (hk:q i = k + 1) (hm:sumTo gs.size q ≤ m + 1):sumTo gs.size (Go.ConcN.upd q i k) ≤ m:=by
  have hsum:=sumTo_upd q k id (Array.getElem?_eq_some_iff.1 hi).1
  simp only [id] at hsum
  have e1:sumTo gs.size (fun a=>Go.ConcN.upd q i k a) = sumTo gs.size (Go.ConcN.upd q i k):=rfl
  have e2:sumTo gs.size (fun a=>q a) = sumTo gs.size q:=rfl
  rw [e1,e2,hk] at hsum
  omega
/-- While the worker is parked,only the first goroutine and those who leave move. -/
theorem Adj {v z:Value} (hmain:∀ gs w sl t q,PhB P W0 fr cs ρ σ c vs fw cw ρw σw j Am Aw Sh none (some (v,z)) gs w t q→Out P Pst gs t (runT P (crowd gs w sl) 0)) :
    ∀ (m:Nat) (gs:Array Goroutine) (w:World) (sl:Option (Nat × Nat)) (t:Trace) (q:Nat→Nat),sumTo gs.size q ≤ m→PhB P W0 fr cs ρ σ c vs fw cw ρw σw j Am Aw Sh none (some (v,z)) gs w t q→My P Pst (crowd gs w sl) t:=by
  intro m
  induction m with
  | zero =>
    intro gs w sl t q hm h
    obtain ⟨x,hx,his⟩:=h.g0 rfl
    refine Jn h.awake ⟨0,x,hx,his.1⟩ fun i g d sl' hi hg=>?_
    by_cases hi0:i = 0
    · subst hi0; exact hmain gs _ sl' t q (h.at_ d)
    · by_cases hij:i = j
      · subst hij; rw [h.gjp v z rfl] at hi; cases hi; cases hg
      · obtain ⟨g',k,hk,_⟩:=Hf (w:=w) (sl:=sl) hi hi0 hg (h.oth i g hi0 hij hi)
        have:=Go.ConcN.le_sumTo (f:=q) (Array.getElem?_eq_some_iff.1 hi).1
        omega
  | succ m ih =>
    intro gs w sl t q hm h
    obtain ⟨x,hx,his⟩:=h.g0 rfl
    refine Jn h.awake ⟨0,x,hx,his.1⟩ fun i g d sl' hi hg=>?_
    by_cases hi0:i = 0
    · subst hi0; exact hmain gs _ sl' t q (h.at_ d)
    · by_cases hij:i = j
      · subst hij; rw [h.gjp v z rfl] at hi; cases hi; cases hg
      · obtain ⟨g',k,hk,hq,hrun⟩:=Hf (w:=w.at d) (sl:=sl') hi hi0 hg (h.oth i g hi0 hij hi)
        refine .inl ⟨_,_,hrun,?_⟩
        rw [Array.append_empty]
        exact ih _ _ sl' t _ (by simpa using Zl hi hk hm) ((h.at_ d).leave hi hi0 hij hq)
theorem Io {gs:Array Goroutine} {i:Nat} {send:Bool} (h:∀ k g,k ≠ i→gs[k]? = some g→offersAt g c send = []):partners (gs.setIfInBounds i ph) c send = [] :=
  partners_nil fun k x hx=>by
    rcases getElem?_stand gs i k x hx with ⟨_,rfl⟩ | ⟨hk,hx⟩
    · rfl
    · exact h k x hk hx
theorem Gi {n:Nat} {g:Goroutine} {send:Bool} (h:QuitsIn P n g):offersAt g c send = [] :=
  offersAt_of_not_blocked (by rcases h.status with hs | hs <;> rw [hs] <;> simp) c send
/-- Beside a worker that runs: it is enough to look at its step and at the first goroutine's. -/
theorem Nb (hself:SendI P c vs fw cw ρw σw)
    (hmain:mp = none→∀ gs w sl t q fw cw ρw σw Aw wp,WGo P c vs fw cw ρw σw wp→PhB P W0 fr cs ρ σ c vs fw cw ρw σw j Am Aw Sh none wp gs w t q→Out P Pst gs t (runT P (crowd gs w sl) 0))
    (hwork:∀ gs w sl t q Aw g,PhB P W0 fr cs ρ σ c vs fw cw ρw σw j Am Aw Sh mp none gs w t q→gs[j]? = some g→Is g fw cw→Out P Pst gs t (runT P (crowd gs w sl) j)) :
    ∀ (m:Nat) (gs:Array Goroutine) (w:World) (sl:Option (Nat × Nat)) (t:Trace) (q:Nat→Nat) (Aw:Nat→Prop),sumTo gs.size q ≤ m→PhB P W0 fr cs ρ σ c vs fw cw ρw σw j Am Aw Sh mp none gs w t q→My P Pst (crowd gs w sl) t:=by
  intro m
  induction m with
  | zero =>
    intro gs w sl t q Aw hm h
    obtain ⟨x,hx,his⟩:=h.gj rfl
    refine Jn h.awake ⟨j,x,hx,his.1⟩ fun i g d sl' hi hg=>?_
    by_cases hi0:i = 0
    · subst hi0
      cases hmp:mp with
      | none=>subst hmp; exact hmain rfl gs _ sl' t q fw cw ρw σw Aw none hself (h.at_ d)
      | some z=>rw [h.g0p z hmp] at hi; cases hi; cases hg
    · by_cases hij:i = j
      · rw [hij] at hi ⊢
        rw [hx] at hi; cases hi
        exact hwork gs _ sl' t q Aw x (h.at_ d) hx his
      · obtain ⟨g',k,hk,_⟩:=Hf (w:=w) (sl:=sl) hi hi0 hg (h.oth i g hi0 hij hi)
        have:=Go.ConcN.le_sumTo (f:=q) (Array.getElem?_eq_some_iff.1 hi).1
        omega
  | succ m ih =>
    intro gs w sl t q Aw hm h
    obtain ⟨x,hx,his⟩:=h.gj rfl
    refine Jn h.awake ⟨j,x,hx,his.1⟩ fun i g d sl' hi hg=>?_
    by_cases hi0:i = 0
    · subst hi0
      cases hmp:mp with
      | none=>subst hmp; exact hmain rfl gs _ sl' t q fw cw ρw σw Aw none hself (h.at_ d)
      | some z=>rw [h.g0p z hmp] at hi; cases hi; cases hg
    · by_cases hij:i = j
      · rw [hij] at hi ⊢
        rw [hx] at hi; cases hi
        exact hwork gs _ sl' t q Aw x (h.at_ d) hx his
      · obtain ⟨g',k,hk,hq,hrun⟩:=Hf (w:=w.at d) (sl:=sl') hi hi0 hg (h.oth i g hi0 hij hi)
        refine .inl ⟨_,_,hrun,?_⟩
        rw [Array.append_empty]
        exact ih _ _ sl' t _ Aw (by simpa using Zl hi hk hm) ((h.at_ d).leave hi hi0 hij hq)
/-- BESIDE A WORKER THAT RUNS. -/
theorem Ti (hW:SendI P c vs fw cw ρw σw):∀ (Am:Nat→Prop) (σ:Own)
    (_:mp = none→∀ gs w sl t q fw cw ρw σw Aw wp,WGo P c vs fw cw ρw σw wp→PhB P W0 fr cs ρ σ c vs fw cw ρw σw j Am Aw Sh none wp gs w t q→Out P Pst gs t (runT P (crowd gs w sl) 0))
    (_:∀ z v vs',mp = some z→vs = v :: vs'→∃ i,σ[i]? = some (c,Res.recv (v :: vs'))∧∀ gs w sl t q fw cw ρw σw Aw,SendI P c vs' fw cw ρw σw →
      PhB P W0 (fr.finish (.tuple #[v,.bool true])) cs ρ (σ.set i (c,.recv vs')) c vs' fw cw ρw σw j Am Aw Sh none none gs w t q→My P Pst (crowd gs w sl) t)
    (_:vs = []→∀ gs w sl t q Aw pc,PhC P W0 fr cs ρ σ c j Am Aw Sh pc gs w t q→My P Pst (crowd gs w sl) t)
    (m:Nat) (gs:Array Goroutine) (w:World) (sl:Option (Nat × Nat)) (t:Trace) (q:Nat→Nat) (Aw:Nat→Prop),sumTo gs.size q ≤ m→PhB P W0 fr cs ρ σ c vs fw cw ρw σw j Am Aw Sh mp none gs w t q→My P Pst (crowd gs w sl) t:=by
  induction hW with
  | ghost hg hs ih=>exact fun Am σ hmain hnext hclose m gs w sl t q Aw hm h=>ih Am σ hmain hnext hclose m gs w sl t q Aw hm (h.ghostw hg)
  | @step vs fw cw ρw σw K hst hK ih =>
    intro Am σ hmain hnext hclose
    refine Nb (.step K hst hK) hmain fun gs w sl t q Aw g h hgj his=>?_
    obtain ⟨fw',cw',w',es,σw',h1,h2,h3,h4⟩:=hst w h.satw
    have hb:(j == 0) = false:=by simpa using h.j0
    refine .inl ⟨_,_,runT_crowd_go hgj (by rw [hb,his.step]; exact h1),?_⟩
    exact ih _ _ _ h4 Am σ hmain hnext hclose _ _ _ _ _ _ _ (Nat.le_refl _) (h.work h2 h3 g hgj (Is.of _ _) _ _)
  | @send v vs' z fw cw ρw σw hat hs ih =>
    intro Am σ hmain hnext hclose
    refine Nb (.send hat hs) hmain fun gs w sl t q Aw g h hgj his=>?_
    have hb:(j == 0) = false:=by simpa using h.j0
    have hcomm:stepG P (j == 0) g w = .comm (G fw cw) #[scase c v z] true .send w #[]:=by rw [hb,his.step]; exact hat w
    obtain ⟨s,r,tm,hch⟩:=h.ch
    cases hmp:mp with
    | none =>
      subst hmp
      obtain ⟨x0,hx0,his0⟩:=h.g0 rfl
      have hp:partners (gs.setIfInBounds j ph) c false = []:=Io fun k y hk hy=>by
        by_cases hk0:k = 0
        · subst hk0; rw [hx0] at hy; cases hy; exact offersAt_of_not_blocked (by rw [his0.1]; simp) c false
        · exact Gi (h.oth k y hk0 hk hy)
      refine .inl ⟨_,_,crowd_waits hgj hcomm fun cc hcc=>?_,?_⟩
      · have:cc = scase c v z:=by simpa using hcc
        subst this
        exact ways_send_none hch (by simp) hp
      · have e1:MemOp.ofEvents j g.frame.fn g.frame.place #[] = #[]:=rfl
        rw [e1,Array.append_empty]
        refine Adj (v:=v) (z:=z) (fun gs w sl t q h'=>hmain rfl gs w sl t q fw cw ρw σw Aw (some (v,z)) ⟨vs',rfl,hs⟩ h') _ _ _ _ _ q (Nat.le_refl _) ?_
        exact { h with
          g0:=fun _=>⟨x0,by rw [Dw (Ne.symm h.j0)]; exact hx0,his0⟩
          g0p:=fun z e=>by cases e
          gj:=fun e=>by cases e
          gjp:=fun v' z' e=>by cases e; exact Fq hgj
          oth:=fun k y hk hkj hy=>by rw [Dw hkj] at hy; exact h.oth k y hk hkj hy }
    | some z0 =>
      have h0:=h.g0p z0 hmp
      have hp:partners (gs.setIfInBounds j ph) c false = [(0,0)]:=by
        rw [partners_one (stand_get (Ne.symm h.j0) h0) fun k y hk hy=>?_]
        · simp [offersAt_parked_recv]
        · rcases getElem?_stand gs j k y hy with ⟨_,rfl⟩ | ⟨hkj,hy⟩
          · rfl
          · exact Gi (h.oth k y hk hkj hy)
      obtain ⟨i,hi,hn⟩:=hnext z0 v vs' hmp rfl
      refine .inl ⟨_,_,crowd_send_meets hgj hcomm hch (Ne.symm h.j0) h0 hp,?_⟩
      refine hn _ _ _ _ q _ _ _ _ _ hs (h.meet hi ?_ ?_ ?_ ?_ ?_)
      · refine ⟨_,?_,(Is.of fr cs).served _⟩
        rw [Dw (Ne.symm h.j0),Fq h0]
        rfl
      · refine ⟨_,?_,(Is.of fw cw).served _⟩
        rw [Fq (y:=g) (by rw [Dw h.j0]; exact hgj)]
        rfl
      · intro k hk hkj
        rw [Dw hkj,Dw hk]
      · intro op hop m hm
        have:MemOp.ofEvents j g.frame.fn g.frame.place #[] = #[]:=rfl
        simp only [this,Array.empty_append] at hop
        simp only [List.mem_toArray,List.mem_cons,List.not_mem_nil,or_false] at hop
        rcases hop with rfl | rfl | rfl | rfl <;> cases hm
      · intro op hop
        have:MemOp.ofEvents j g.frame.fn g.frame.place #[] = #[]:=rfl
        simp only [this,Array.empty_append] at hop
        simp only [List.mem_toArray,List.mem_cons,List.not_mem_nil,or_false] at hop
        rcases hop with rfl | rfl | rfl | rfl <;> rfl
  | @close fw cw ρw σw hat =>
    intro Am σ hmain hnext hclose
    refine Nb (.close hat) hmain fun gs w sl t q Aw g h hgj his=>?_
    obtain ⟨hmw,n,g',hq,hst⟩:=hat
    obtain ⟨s,r,tm,hch⟩:=h.ch
    have hb:(j == 0) = false:=by simpa using h.j0
    have hmw':mayWake P g = true:=by
      rw [← hmw]; unfold mayWake; rw [his.2.1]; rfl
    obtain ⟨pc,hC⟩:=h.close (s:=s) (r:=r) (tm:=tm) hgj hmw' hq g.frame.fn g.frame.place
    exact .inl ⟨_,_,runT_crowd_go hgj (by rw [hb,his.step]; exact hst w s r tm hch),hclose rfl _ _ _ _ _ _ pc hC⟩
end
end Go.Proofs.YtphgjjmlnkgghaaGreatDoor

namespace Go.Proofs.YtphgjjmlnkgghaaGreatDoor
open Go Go.Conc Go.RowKit
open Go.ConcN (sumTo sumTo_upd upd_ne upd_same)
/-- The first goroutine stands at the step that ends the run; nobody is left to talk to. -/
def Agg (P:Program) (W0:World) (Pst:Value→World→Prop):Cy:=fun fr cs ρ σ =>
  Jp σ∧∀ W,Sat ρ σ W→Below W0.heap.size W0 W→(∀ b ∈ keys σ,W0.heap.size ≤ b)→∃ v W' es,stepG P true (G fr cs) W = .ended (.done v) W' es∧(∀ e ∈ es,EvOk ρ σ e)∧Pst v W'
section
variable {P:Program} {Pst:Value→World→Prop} {W0:World} {fr:Frame} {cs:List Frame} {ρ:Ro} {σ:Own}
/-- The three things that are shown of a place in the first goroutine's walk. -/
structure Fine (P:Program) (W0:World) (Pst:Value→World→Prop) (fr:Frame) (cs:List Frame) (ρ:Ro) (σ:Own):Prop where
  A:∀ gs w sl t q,PhA P W0 fr cs ρ σ gs w t q→My P Pst (crowd gs w sl) t
  B:∀ c vs j Am Aw Sh fw cw ρw σw wp gs w sl t q,WGo P c vs fw cw ρw σw wp→PhB P W0 fr cs ρ σ c vs fw cw ρw σw j Am Aw Sh none wp gs w t q→My P Pst (crowd gs w sl) t
  C:∀ c j Am Aw Sh pc gs w sl t q,PhC P W0 fr cs ρ σ c j Am Aw Sh pc gs w t q→My P Pst (crowd gs w sl) t
/-- It is enough to look at the first goroutine's own step. -/
theorem Pv (hA:∀ gs w sl t q,PhA P W0 fr cs ρ σ gs w t q→Out P Pst gs t (runT P (crowd gs w sl) 0))
    (hC:∀ c j Am Aw Sh pc gs w sl t q,PhC P W0 fr cs ρ σ c j Am Aw Sh pc gs w t q→Out P Pst gs t (runT P (crowd gs w sl) 0))
    (hB:(∀ c j Am Aw Sh pc gs w sl t q,PhC P W0 fr cs ρ σ c j Am Aw Sh pc gs w t q→My P Pst (crowd gs w sl) t) →
      ∀ c vs j Am Aw Sh fw cw ρw σw wp gs w sl t q,WGo P c vs fw cw ρw σw wp→PhB P W0 fr cs ρ σ c vs fw cw ρw σw j Am Aw Sh none wp gs w t q→Out P Pst gs t (runT P (crowd gs w sl) 0)):Fine P W0 Pst fr cs ρ σ:=by
  have hC':∀ c j Am Aw Sh pc gs w sl t q,PhC P W0 fr cs ρ σ c j Am Aw Sh pc gs w t q→My P Pst (crowd gs w sl) t:=by
    intro c j Am Aw Sh pc gs w sl t q h
    obtain ⟨g,hg,his⟩:=h.g0
    have hw:crowd gs w sl = crowd gs (w.at w.drawn) sl:=rfl
    rw [hw]
    refine Yg (g0:=g) (sz:=gs.size) his.1 (fun gs' q' d sl' h0 hsz ho=>?_) _ gs _ sl q (Nat.le_refl _) rfl hg h.oth
    exact hC c j Am Aw Sh pc gs' (w.at d) sl' t q' { (h.at_ d) with g0:=⟨g,h0,his⟩,oth:=ho }
  refine ⟨?_,?_,hC'⟩
  · intro gs w sl t q h
    obtain ⟨g,hg,his⟩:=h.g0
    have hw:crowd gs w sl = crowd gs (w.at w.drawn) sl:=rfl
    rw [hw]
    refine Yg (g0:=g) (sz:=gs.size) his.1 (fun gs' q' d sl' h0 hsz ho=>?_) _ gs _ sl q (Nat.le_refl _) rfl hg h.oth
    exact hA gs' (w.at d) sl' t q' { (h.at_ d) with g0:=⟨g,h0,his⟩,oth:=ho }
  · intro c vs j Am Aw Sh fw cw ρw σw wp gs w sl t q hW h
    cases wp with
    | none =>
      exact Ti hW Am σ (fun _ gs w sl t q fw cw ρw σw Aw wp hW h=>hB hC' c _ j Am Aw Sh fw cw ρw σw wp gs w sl t q hW h) (fun z v vs' e=>by cases e)
        (fun e gs w sl t q Aw pc h=>hC' c j Am Aw Sh pc gs w sl t q h) _ gs w sl t q Aw (Nat.le_refl _) h
    | some z =>
      obtain ⟨v,z⟩:=z
      exact Adj (fun gs w sl t q h=>hB hC' c _ j Am Aw Sh fw cw ρw σw (some (v,z)) gs w sl t q hW h) _ gs w sl t q (Nat.le_refl _) h
theorem Fine.ghost {ρ':Ro} {σ':Own} (hg:Ghost ρ σ ρ' σ') (h:Fine P W0 Pst fr cs ρ' σ'):Fine P W0 Pst fr cs ρ σ :=
  ⟨fun gs w sl t q h'=>h.A gs w sl t q (h'.ghost hg),fun c vs j Am Aw Sh fw cw ρw σw wp gs w sl t q hW h'=>h.B c vs j Am Aw Sh fw cw ρw σw wp gs w sl t q hW (h'.ghost hg),
    fun c j Am Aw Sh pc gs w sl t q h'=>h.C c j Am Aw Sh pc gs w sl t q (h'.ghost hg)⟩
theorem Aew {K:Frame→List Frame→Own→Prop} (hst:Aal (Iw P) fr cs ρ σ K) (hK:∀ fr' cs' σ',K fr' cs' σ'→Fine P W0 Pst fr' cs' ρ σ'):Fine P W0 Pst fr cs ρ σ:=by
  refine Pv (fun gs w sl t q h=>?_) (fun c j Am Aw Sh pc gs w sl t q h=>?_) (fun _ c vs j Am Aw Sh fw cw ρw σw wp gs w sl t q hW h=>?_)
  · obtain ⟨g,hg,his⟩:=h.g0
    obtain ⟨fr',cs',w',es,σ',h1,h2,h3,h4⟩:=hst w h.sat
    have h1:stepG P true (G fr cs) w = .go (G fr' cs') w' es:=h1
    refine .inl ⟨_,_,runT_crowd_go hg (show stepG P (0 == 0) g w = _ from (his.step w).trans h1),?_⟩
    exact (hK _ _ _ h4).A _ _ _ _ _ (h.main h2 h3 g hg (Is.of _ _) _ _)
  · obtain ⟨g,hg,his⟩:=h.g0
    obtain ⟨fr',cs',w',es,σ',h1,h2,h3,h4⟩:=hst w h.sat
    have h1:stepG P true (G fr cs) w = .go (G fr' cs') w' es:=h1
    refine .inl ⟨_,_,runT_crowd_go hg (show stepG P (0 == 0) g w = _ from (his.step w).trans h1),?_⟩
    exact (hK _ _ _ h4).C _ _ _ _ _ _ _ _ _ _ _ (h.main h2 h3 g hg (Is.of _ _) _ _)
  · obtain ⟨g,hg,his⟩:=h.g0 rfl
    obtain ⟨fr',cs',w',es,σ',h1,h2,h3,h4⟩:=hst w h.sat
    have h1:stepG P true (G fr cs) w = .go (G fr' cs') w' es:=h1
    refine .inl ⟨_,_,runT_crowd_go hg (show stepG P (0 == 0) g w = _ from (his.step w).trans h1),?_⟩
    exact (hK _ _ _ h4).B _ _ _ _ _ _ _ _ _ _ _ _ _ _ _ _ hW (h.main h2 h3 g hg (Is.of _ _) _ _)
theorem Aex (h:Agg P W0 Pst fr cs ρ σ):Fine P W0 Pst fr cs ρ σ:=by
  obtain ⟨hn,hs⟩:=h
  refine Pv (fun gs w sl t q h=>?_) (fun c j Am Aw Sh pc gs w sl t q h=>absurd h.hc (hn _ _)) (fun _ c vs j Am Aw Sh fw cw ρw σw wp gs w sl t q hW h=>absurd h.hc (hn _ _))
  obtain ⟨g,hg,his⟩:=h.g0
  obtain ⟨v,W',es,h1,h2,h3⟩:=hs w h.sat h.below h.newk
  refine .inr ⟨_,_,_,runT_many_ended hg (show stepG P (0 == 0) g w = _ from (his.step w).trans h1),fun w0 sl0=>?_⟩
  obtain ⟨o1,o2⟩:=Abe h2 0 g.frame.fn g.frame.place
  have htr:=h.tr.own o1 fun op hop=>(o2 op hop).1
  refine ⟨v,rfl,h3,htr.clean,htr.handed,⟨fun x hx=>?_,rfl⟩,fun j x hx hj=>?_⟩
  · obtain ⟨j,hj⟩:=List.mem_iff_getElem?.1 hx
    rw [List.getElem?_drop] at hj
    exact ⟨_,(h.oth (1 + j) x (by omega) (by simpa [crowd] using hj)).leaves⟩
  · have hq:=h.oth j x hj hx
    refine ⟨q j,?_⟩
    rw [htr.wl.deaf]
    exact hq.hears _ _
theorem Aeu {d:Deferred} {i c:Nat} {vs:List Value} {fr':Frame} (hst:∀ W,stepG P true (G fr cs) W = .spawn (G fr' cs) (G (Gg P d) []) W #[]) (hn:Jp σ) (hi:σ[i]? = some (c,Res.chan)) (hS:SendI P c vs (Gg P d) [] ρ [])
    (hK:Fine P W0 Pst fr' cs ρ (σ.set i (c,.recv vs))):Fine P W0 Pst fr cs ρ σ:=by
  have hc:(c,Res.chan) ∈ σ:=List.mem_of_getElem? hi
  refine Pv (fun gs w sl t q h=>?_) (fun c j Am Aw Sh pc gs w sl t q h=>absurd h.hc (hn _ _)) (fun _ c vs j Am Aw Sh fw cw ρw σw wp gs w sl t q hW h=>absurd h.hc (hn _ _))
  obtain ⟨g,hg,his⟩:=h.g0
  refine .inl ⟨_,_,runT_crowd_spawn hg (show stepG P (0 == 0) g w = _ from (his.step w).trans (hst w)),?_⟩
  have hsz:0 < gs.size:=(Array.getElem?_eq_some_iff.1 hg).1
  have hkeys:=Tt (r':=Res.recv vs) hi
  have hmem:∀ p,p ∈ σ.set i (c,Res.recv vs)→p = (c,.recv vs)∨(p ∈ σ∧p.1 ≠ c):=fun p hp=>Gq hi h.sat.nd hp
  obtain ⟨s,r,tm,hch⟩:=h.sat.own _ hc
  have hset:(c,Res.recv vs) ∈ σ.set i (c,.recv vs):=by
    have hlt:i < σ.length:=by
      rcases Nat.lt_or_ge i σ.length with h' | h'
      · exact h'
      · rw [List.getElem?_eq_none h'] at hi; cases hi
    exact List.mem_of_getElem? (i:=i) (by rw [List.getElem?_set]; simp [hlt])
  refine hK.B c vs gs.size (fun b=>∃ x,(b,x) ∈ σ∧b ≠ c) (fun _=>False) (fun b=>(ρ b).isSome = true) (Gg P d) [] ρ [] none _ _ _ _ q hS {
    g0:=fun _=>⟨G fr' cs,by rw [Array.getElem?_push]; simp only [Array.size_setIfInBounds,Nat.ne_of_lt hsz,if_false]; exact Fq hg,Is.of _ _⟩
    g0p:=fun z e=>by cases e
    gj:=fun _=>⟨G (Gg P d) [],by rw [Array.getElem?_push]; simp,Is.of _ _⟩
    gjp:=fun v z e=>by cases e
    j0:=by omega
    oth:=fun k x hk hkj hx=>by
      have hk':gs[k]? = some x:=by
        rw [Array.getElem?_push] at hx
        simp only [Array.size_setIfInBounds,hkj,if_false] at hx
        rwa [Array.getElem?_setIfInBounds_ne (Ne.symm hk)] at hx
      exact h.oth k x hk hk'
    sat:=?_
    satw:=⟨h.sat.ro,fun p hp=>absurd hp List.not_mem_nil,List.nodup_nil,fun b hb=>absurd hb List.not_mem_nil⟩
    ch:=⟨s,r,tm,hch⟩
    hc:=hset
    one:=fun c' vs' hc'=>by
      rcases hmem _ hc' with e | ⟨hc'',_⟩
      · injection e
      · exact absurd hc'' (hn _ _)
    nrw:=fun c' vs' hc'=>by cases hc'
    newk:=by rw [hkeys]; exact h.newk
    neww:=fun b hb=>by cases hb
    below:=h.below
    am:=fun b x hb hx=>by
      rcases hmem _ hb with e | ⟨hb',hbc⟩
      · injection e with _ e; exact absurd e (hx vs)
      · exact ⟨x,hb',hbc⟩
    aw:=fun b hb=>by cases hb
    rm:=fun b hb=>.inl hb
    rw_:=fun b hb=>.inl hb
    dmw:=fun b _ h=>h
    dms:=fun b ⟨x,h1,_⟩ h2=>by rw [h.sat.dj b (Du h1)] at h2; cases h2
    dws:=fun b h _=>h
    ncm:=fun ⟨x,_,h1⟩=>h1 rfl
    ncw:=id
    ncs:=by rw [h.sat.dj c (Du hc)]; simp
    lt:=fun b hb=>by
      rcases hb with ⟨x,hb,_⟩ | hb | hb
      · exact h.sat.key_lt (Du hb)
      · exact hb.elim
      · obtain ⟨o,ho⟩:=Option.isSome_iff_exists.1 hb
        exact Dq (h.sat.ro b o ho).1
    tr:=?_ }
  · refine ⟨h.sat.ro,fun p hp=>?_,by rw [hkeys]; exact h.sat.nd,by rw [hkeys]; exact h.sat.dj⟩
    rcases hmem p hp with rfl | ⟨hp',_⟩
    · exact ⟨s,r,false,tm,hch⟩
    · exact h.sat.own p hp'
  · have e1:MemOp.ofEvents 0 g.frame.fn g.frame.place #[] = #[]:=rfl
    rw [e1]
    exact h.tr.fork (by omega) (x:={ g:=0,fn:=g.frame.fn,pos:=g.frame.place,act:=.go gs.size }) (y:={ g:=gs.size,fn:=(G (Gg P d) []).frame.fn,pos:=g.frame.place,act:=.start }) ⟨rfl,rfl⟩ ⟨rfl,rfl⟩
theorem Aev {i c:Nat} {v z:Value} {vs:List Value} (hst:Sv P c z fr cs) (hi:σ[i]? = some (c,Res.recv (v :: vs)))
    (hK:Fine P W0 Pst (fr.finish (.tuple #[v,.bool true])) cs ρ (σ.set i (c,.recv vs))):Fine P W0 Pst fr cs ρ σ:=by
  have hc:(c,Res.recv (v :: vs)) ∈ σ:=List.mem_of_getElem? hi
  refine Pv (fun gs w sl t q h=>absurd hc (h.nr _ _)) (fun c' j Am Aw Sh pc gs w sl t q h=>?_) (fun hC c' vs' j Am Aw Sh fw cw ρw σw wp gs w sl t q hW h=>?_)
  · obtain rfl:=h.one _ _ hc
    exact absurd (h.sat.uniq hc h.hc) (by simp)
  · obtain rfl:=h.one _ _ hc
    have e:vs' = v :: vs:=by
      have:=h.sat.uniq h.hc hc
      injection this
    subst e
    obtain ⟨g,hg,his⟩:=h.g0 rfl
    obtain ⟨s,r,tm,hch⟩:=h.ch
    have hcomm:stepG P (0 == 0) g w = .comm (G fr cs) #[rcase c z] true (.recv true) w #[]:=(his.step w).trans (hst w)
    cases wp with
    | none =>
      obtain ⟨x,hx,hisx⟩:=h.gj rfl
      have hp:partners (gs.setIfInBounds 0 ph) c true = []:=Io fun k y hk hy=>by
        by_cases hkj:k = j
        · subst hkj; rw [hx] at hy; cases hy; exact offersAt_of_not_blocked (by rw [hisx.1]; simp) c true
        · exact Gi (h.oth k y hk hkj hy)
      refine .inl ⟨_,_,crowd_waits hg hcomm fun cc hcc=>?_,?_⟩
      · have:cc = rcase c z:=by simpa using hcc
        subst this
        exact ways_recv_none hch hp
      · have e1:MemOp.ofEvents 0 g.frame.fn g.frame.place #[] = #[]:=rfl
        rw [e1,Array.append_empty]
        refine Ti (mp:=some z) (fr:=fr) (cs:=cs) (ρ:=ρ) (j:=j) (Sh:=Sh) (W0:=W0) hW Am σ (fun e=>by cases e) (fun z' v' vs' _ e=>?_) (fun e=>by cases e) _ _ _ _ _ q Aw (Nat.le_refl _) ?_
        · injection e with e1 e2
          subst e1 e2
          exact ⟨i,hi,fun gs w sl t q fw cw ρw σw Aw hS h'=>hK.B _ _ _ _ _ _ _ _ _ _ _ _ _ _ _ _ (show WGo P c vs fw cw ρw σw none from hS) h'⟩
        · exact { h with
            g0:=fun e=>by cases e
            g0p:=fun z' e=>by cases e; exact Fq hg
            gj:=fun _=>⟨x,by rw [Dw h.j0]; exact hx,hisx⟩
            gjp:=fun v z e=>by cases e
            oth:=fun k y hk hkj hy=>by rw [Dw hk] at hy; exact h.oth k y hk hkj hy }
    | some p =>
      obtain ⟨v0,z0⟩:=p
      obtain ⟨vs1,e,hS⟩:=hW
      injection e with e1 e2
      subst e1 e2
      have hj:=h.gjp v z0 rfl
      have hp:partners (gs.setIfInBounds 0 ph) c true = [(j,0)]:=by
        rw [partners_one (stand_get h.j0 hj) fun k y hk hy=>?_]
        · simp [offersAt_parked_send]
        · rcases getElem?_stand gs 0 k y hy with ⟨_,rfl⟩ | ⟨hk0,hy⟩
          · rfl
          · exact Gi (h.oth k y hk0 hk hy)
      refine .inl ⟨_,_,crowd_recv_meets hg hcomm hch h.j0 hj hp,?_⟩
      refine hK.B _ _ _ _ _ _ _ _ _ _ _ _ _ _ _ q (show WGo P c vs _ cw ρw σw none from hS) (h.meet hi ?_ ?_ ?_ ?_ ?_)
      · refine ⟨_,?_,(Is.of fr cs).served _⟩
        rw [Fq (y:=g) (by rw [Dw (Ne.symm h.j0)]; exact hg)]
        rfl
      · refine ⟨_,?_,(Is.of fw cw).served _⟩
        rw [Dw h.j0,Fq hj]
        rfl
      · intro k hk hkj
        rw [Dw hk,Dw hkj]
      · intro op hop m hm
        have:MemOp.ofEvents 0 g.frame.fn g.frame.place #[] = #[]:=rfl
        simp only [this,Array.empty_append] at hop
        simp only [List.mem_toArray,List.mem_cons,List.not_mem_nil,or_false] at hop
        rcases hop with rfl | rfl | rfl | rfl <;> cases hm
      · intro op hop
        have:MemOp.ofEvents 0 g.frame.fn g.frame.place #[] = #[]:=rfl
        simp only [this,Array.empty_append] at hop
        simp only [List.mem_toArray,List.mem_cons,List.not_mem_nil,or_false] at hop
        rcases hop with rfl | rfl | rfl | rfl <;> rfl
theorem TC.ended {t:Trace} {j c pc:Nat} {Aw Sh:Nat→Prop} (h:TC t j c pc Aw Sh) {x:MemOp} (hx:x.g = 0∧x.act = .recvClosed c):TA (t ++ #[x]):=by
  have hwl:Wordless #[x]:=fun op hop m hm=>by
    have:op = x:=by simpa using hop
    subst this; rw [hx.2] at hm; cases hm
  have hmute:∀ op ∈ #[x],op.act.touch? = none:=fun op hop=>by
    have:op = x:=by simpa using hop
    subst this; rw [hx.2]; rfl
  have hwl':=h.wl.append hwl
  have hxat:(t ++ #[x])[t.size]? = some x:=by rw [Array.getElem?_append_right (Nat.le_refl _)]; simp
  obtain ⟨op,h1,h2,h3⟩:=h.at_
  have hpc:=lt_size_of_getElem? h1
  have h1':(t ++ #[x])[pc]? = some op:=by rw [getElem?_append_old hpc]; exact h1
  have hcl:HappensBefore (t ++ #[x]) pc t.size:=.single (.inr ⟨.closed (c:=c) (by rw [Trace.act?,h1']; simp [h3]) (by rw [Trace.act?,hxat]; simp [hx.2]),hwl'.heard h1',hwl'.heard hxat⟩)
  refine ⟨hwl',fun said=>Ni (h.clean said) hmute,fun i a ha hm=>?_⟩
  rcases Di ha with h4 | ⟨op,_,h4,h5,_⟩
  · rcases h.k0 i a h4 hm with h5 | ⟨h5,_⟩
    · exact h5.app _
    · exact ⟨t.size,x,hxat,hx.1,.inr ((h5.app _).hb hcl)⟩
  · rw [hmute op h4] at h5; cases h5
theorem Ph {σ:Own} {i c:Nat} {x:Res} (hi:σ[i]? = some (c,x)) (nd:(keys σ).Nodup) {p:Nat × Res} (hp:p ∈ σ.eraseIdx i):p ∈ σ∧p.1 ≠ c:=by
  induction σ generalizing i with
  | nil=>cases hi
  | cons a σ ih =>
    simp only [keys,List.map_cons,List.nodup_cons] at nd
    cases i with
    | zero =>
      simp only [List.getElem?_cons_zero,Option.some.injEq] at hi
      subst hi
      simp only [List.eraseIdx_zero,List.tail_cons] at hp
      exact ⟨List.mem_cons_of_mem _ hp,fun e=>nd.1 (List.mem_map.2 ⟨p,hp,e⟩)⟩
    | succ i =>
      simp only [List.getElem?_cons_succ] at hi
      simp only [List.eraseIdx_cons_succ,List.mem_cons] at hp
      rcases hp with rfl | hp
      · exact ⟨List.mem_cons_self ..,fun e=>nd.1 (by rw [e]; exact List.mem_map.2 ⟨_,List.mem_of_getElem? hi,rfl⟩)⟩
      · obtain ⟨h1,h2⟩:=ih hi nd.2 hp
        exact ⟨List.mem_cons_of_mem _ h1,h2⟩
theorem Aet {i c:Nat} {z:Value} (hst:Sv P c z fr cs) (hi:σ[i]? = some (c,Res.recv []))
    (hK:Fine P W0 Pst (fr.finish (.tuple #[z,.bool false])) cs ρ (σ.eraseIdx i)):Fine P W0 Pst fr cs ρ σ:=by
  have hc:(c,Res.recv []) ∈ σ:=List.mem_of_getElem? hi
  refine Pv (fun gs w sl t q h=>absurd hc (h.nr _ _)) (fun c' j Am Aw Sh pc gs w sl t q h=>?_) (fun hC c' vs' j Am Aw Sh fw cw ρw σw wp gs w sl t q hW h=>?_)
  · obtain rfl:=h.one _ _ hc
    obtain ⟨g,hg,his⟩:=h.g0
    obtain ⟨s,r,tm,hch⟩:=h.ch
    have hcomm:stepG P (0 == 0) g w = .comm (G fr cs) #[rcase c z] true (.recv true) w #[]:=(his.step w).trans (hst w)
    have hp:partners (gs.setIfInBounds 0 ph) c true = []:=Io fun k y hk hy=>Gi (h.oth k y hk hy)
    refine .inl ⟨_,_,crowd_recv_closed hg hcomm hch hp,?_⟩
    have e1:MemOp.ofEvents 0 g.frame.fn g.frame.place #[] = #[]:=rfl
    rw [e1,Array.empty_append]
    have hmem:∀ p,p ∈ σ.eraseIdx i→p ∈ σ∧p.1 ≠ c:=fun p hp=>Ph hi h.sat.nd hp
    have hsub:∀ b ∈ keys (σ.eraseIdx i),b ∈ keys σ:=fun b hb=>by
      obtain ⟨p,hp,rfl⟩:=List.mem_map.1 hb
      exact List.mem_map_of_mem (f:=Prod.fst) (hmem p hp).1
    exact hK.A _ _ _ _ q {
      g0:=⟨_,by rw [Fq hg]; rfl,(Is.of fr cs).served _⟩
      oth:=fun k y hk hy=>by rw [Dw hk] at hy; exact h.oth k y hk hy
      sat:=⟨h.sat.ro,fun p hp=>h.sat.own p (hmem p hp).1,(List.Sublist.map Prod.fst (List.eraseIdx_sublist σ i)).nodup h.sat.nd,fun b hb=>h.sat.dj b (hsub b hb)⟩
      nr:=fun c' vs' hc'=>by
        obtain ⟨h1,h2⟩:=hmem _ hc'
        exact h2 (h.one _ _ h1)
      newk:=fun b hb=>h.newk b (hsub b hb)
      below:=h.below
      tr:=h.tr.ended ⟨rfl,rfl⟩ }
  · obtain rfl:=h.one _ _ hc
    have e:vs' = []:=by
      have:=h.sat.uniq h.hc hc
      injection this
    subst e
    obtain ⟨g,hg,his⟩:=h.g0 rfl
    obtain ⟨s,r,tm,hch⟩:=h.ch
    have hcomm:stepG P (0 == 0) g w = .comm (G fr cs) #[rcase c z] true (.recv true) w #[]:=(his.step w).trans (hst w)
    cases wp with
    | none =>
      obtain ⟨x,hx,hisx⟩:=h.gj rfl
      have hp:partners (gs.setIfInBounds 0 ph) c true = []:=Io fun k y hk hy=>by
        by_cases hkj:k = j
        · subst hkj; rw [hx] at hy; cases hy; exact offersAt_of_not_blocked (by rw [hisx.1]; simp) c true
        · exact Gi (h.oth k y hk hkj hy)
      refine .inl ⟨_,_,crowd_waits hg hcomm fun cc hcc=>?_,?_⟩
      · have:cc = rcase c z:=by simpa using hcc
        subst this
        exact ways_recv_none hch hp
      · have e1:MemOp.ofEvents 0 g.frame.fn g.frame.place #[] = #[]:=rfl
        rw [e1,Array.append_empty]
        refine Ti (mp:=some z) (fr:=fr) (cs:=cs) (ρ:=ρ) (j:=j) (Sh:=Sh) (W0:=W0) hW Am σ (fun e=>by cases e) (fun z' v' vs' _ e=>by cases e) (fun _ gs w sl t q Aw pc h'=>hC _ _ _ _ _ _ _ _ _ _ _ h') _ _ _ _ _ q Aw (Nat.le_refl _) ?_
        exact { h with
            g0:=fun e=>by cases e
            g0p:=fun z' e=>by cases e; exact Fq hg
            gj:=fun _=>⟨x,by rw [Dw h.j0]; exact hx,hisx⟩
            gjp:=fun v z e=>by cases e
            oth:=fun k y hk hkj hy=>by rw [Dw hk] at hy; exact h.oth k y hk hkj hy }
    | some p =>
      obtain ⟨v0,z0⟩:=p
      obtain ⟨vs1,e,_⟩:=hW
      cases e
/-- WHOEVER WALKS SO TO THE RETURN,WINS. -/
theorem Xa (h:GoesH (Iw P) (Agg P W0 Pst) fr cs ρ σ):Fine P W0 Pst fr cs ρ σ:=by
  induction h with
  | stop h=>exact Aex h
  | ghost hg _ ih=>exact ih.ghost hg
  | step K h1 _ ih=>exact Aew h1 ih
  | @ext fr cs ρ σ K h1 _ ih =>
    rcases h1 with ⟨d,i,c,vs,fr',h1,h2,h3,h4,h5⟩ | ⟨i,c,v,vs,z,h1,h2,h3⟩ | ⟨i,c,z,h1,h2,h3⟩
    · exact Aeu h1 h2 h3 h4 (ih _ _ _ _ h5)
    · exact Aev h1 h2 (ih _ _ _ _ h3)
    · exact Aet h1 h2 (ih _ _ _ _ h3)
/-- A whole run,from its first frame: nothing is owned,what stands in old memory may be read. -/
theorem Zb {F:Frame} (h:GoesH (Iw P) (Agg P W0 Pst) F [] ρ []) (hro:∀ b o,ρ b = some o→W0.heap[b]? = some o∧o.isChan = false) :
    ∃ M last o w' t',runNT P (M + 1) (solo (G F []) W0) #[] = (.ended o w',t')∧runN P M (solo (G F []) W0) = .next last∧step P last = .ended o w'∧Go.Conc.Good P Pst last o w' t':=by
  have hw:My P Pst (crowd #[G F []] W0 none) #[]:=(Xa h).A #[G F []] W0 none #[] (fun _=>0) {
    g0:=⟨G F [],rfl,Is.of _ _⟩
    oth:=fun k y hk hy=>by
      match k with
      | 0=>exact absurd rfl hk
      | k + 1=>simp at hy
    sat:=⟨hro,fun p hp=>absurd hp List.not_mem_nil,List.nodup_nil,fun b hb=>absurd hb List.not_mem_nil⟩
    nr:=fun c' vs' hc'=>by cases hc'
    newk:=fun b hb=>by cases hb
    below:=Below.refl _ _
    tr:=TA.nil }
  exact hw
end
end Go.Proofs.YtphgjjmlnkgghaaGreatDoor

namespace Go.Proofs.YtphgjjmlnkgghaaGreatDoor
open Go
section
variable {C:Ctx} {e:Env} {ds:List Deferred} {ρ:Ro} {σ:Own} {K:Value→List Deferred→Ro→Own→Prop} {rd:Option Nat} {dd:Option Tmp}
variable {ty:TypeId} {pos:String} {af:Array Edge} {g:Option (Nat × Bool)} {x y:Operand} {v p:Value} {t t':TypeId} {P:Program}
theorem Qm {v:Value} (h:single v = true):v.cells = #[v]:=by
  cases v <;> first | rfl | (simp [single] at h)
/-- One cell of an owned block is stored. -/
theorem Cz {c:List Value} {r off j:Nat} (hz:∃ i,C.P.info? t = some i∧i.size = 1) (hx:Af e x = .pointer (some ⟨r,off,none⟩)) (hy:Af e y = v) (hs:single v = true)
    (hj:σ[j]? = some (r,.obj (.cells c.toArray t' (0,0)))) (hl:off < c.length) (h:K undef ds ρ (σ.set j (r,.obj (.cells (c.set off v).toArray t' (0,0))))) :
    wpS C.P ρ (execOp (Af e) ⟨dd,.store t x y,ty,pos,af,g⟩) σ (NextH C K rd ds ρ):=by
  refine Li (vs:=[v]) (c:=c) (c':=c.set off v) hz hx hy (Qm hs) rfl (by simpa using hs) hj (by simpa using Nat.succ_le_of_lt hl) ?_ h
  simp only [over]
/-- One element of an owned row that stands behind other cells is stored. -/
theorem Nq {β:Type} {f:β→Value} {pc:List Value} {xs:List β} {bv:β} {r i off j:Nat} (hz:∃ i,C.P.info? t = some i∧i.size = 1) (hx:Af e x = .pointer (some ⟨r,off,none⟩)) (hy:Af e y = f bv) (hs:single (f bv) = true)
    (hj:σ[j]? = some (r,.obj (.cells (pc ++ xs.map f).toArray t' (0,0)))) (ho:off = pc.length + i) (hi:i < xs.length) (h:K undef ds ρ (σ.set j (r,.obj (.cells (pc ++ (xs.set i bv).map f).toArray t' (0,0))))) :
    wpS C.P ρ (execOp (Af e) ⟨dd,.store t x y,ty,pos,af,g⟩) σ (NextH C K rd ds ρ):=by
  subst ho
  refine Cz hz hx hy hs hj (by simp; omega) ?_
  have e1:(pc ++ xs.map f).set (pc.length + i) (f bv) = pc ++ (xs.set i bv).map f:=by
    rw [List.set_append_right _ _ (by omega),List.map_set]; simp
  rw [e1]; exact h
/-- One element of an owned row that stands behind other cells is read. -/
theorem Mq {β:Type} {f:β→Value} {pc:List Value} {xs:List β} {bv:β} {r i off j:Nat} (hT:∃ d,C.P.underlying t = some d∧Qv d = false) (hx:Af e x = .pointer (some ⟨r,off,none⟩)) (hj:σ[j]? = some (r,.obj (.cells (pc ++ xs.map f).toArray t' (0,0)))) (ho:off = pc.length + i) (hb:xs[i]? = some bv) (h:K (f bv) ds ρ σ) :
    wpS C.P ρ (execOp (Af e) ⟨dd,.load t x,ty,pos,af,g⟩) σ (NextH C K rd ds ρ):=by
  subst ho
  exact Dt hT hx hj (by rw [List.getElem?_append_right (by omega)]; simp [List.getElem?_map,hb]) h
theorem Ajx {k:IntKind} {p q:Int} {tys:Array TypeId} (hx:Af e x = .int k p) (hy:Af e y = .int k q):Yld P ρ e (.call ⟨.builtin .min,#[x,y],tys⟩) ty (.int k (min p q)):=by
  refine Mc (args:=[x,y]) (vs:=[.int k p,.int k q]) (s:=fun _=>pure (.int k (min p q))) (by simp [hx,hy]) (fun cs=>?_) ?_
  · have e0:builtin .min tys ty cs [.int k p,.int k q].toArray = (Builtin.min_ tys ty #[.int k p,.int k q]).bind fun v=>Sem.pure (Next.value v):=rfl
    rw [e0]
    have e1:Builtin.min_ tys ty #[.int k p,.int k q] = pure (.int k (min p q)):=by
      simp only [Builtin.min_,List.foldlM_cons,List.foldlM_nil,Builtin.min2]
      have:(if q < p then q else p) = min p q:=by split <;> omega
      rw [this]; rfl
    rw [e1]
  · exact fun cs ρ' σ' _=>⟨rfl,rfl⟩
theorem Aqf {k:IntKind} {p q:Int} {tys:Array TypeId} (hx:Af e x = .int k p) (hy:Af e y = .int k q):Yld P ρ e (.call ⟨.builtin .max,#[x,y],tys⟩) ty (.int k (max p q)):=by
  refine Mc (args:=[x,y]) (vs:=[.int k p,.int k q]) (s:=fun _=>pure (.int k (max p q))) (by simp [hx,hy]) (fun cs=>?_) ?_
  · have e0:builtin .max tys ty cs [.int k p,.int k q].toArray = (Builtin.max_ tys ty #[.int k p,.int k q]).bind fun v=>Sem.pure (Next.value v):=rfl
    rw [e0]
    have e1:Builtin.max_ tys ty #[.int k p,.int k q] = pure (.int k (max p q)):=by
      simp only [Builtin.max_,List.foldlM_cons,List.foldlM_nil,Builtin.max2]
      have:(if q > p then q else p) = max p q:=by split <;> omega
      rw [this]; rfl
    rw [e1]
  · exact fun cs ρ' σ' _=>⟨rfl,rfl⟩
def Wu (P:Program):List Field→List Nat→Prop
  | [],[]=>True
  | f :: fs,n :: ns=>(∃ i,P.info? f.type = some i∧i.size = n)∧Wu P fs ns
  | _,_=>False
def Gs:List Field→List Nat→List (Nat × Nat)
  | f :: fs,n :: ns=>(f.offset,n) :: Gs fs ns
  | _,_=>[]
theorem Ux {P:Program} {Q:Array (Nat × Nat)→Own→Prop}:∀ (fs:List Field) (ns:List Nat) (acc:Array (Nat × Nat)),Wu P fs ns→Q (acc ++ (Gs fs ns).toArray) σ →
    wpS P ρ (List.foldlM (m:=Sem) (fun (bs:Array (Nat × Nat)) (f:Field)=>Functor.map bs.push (do pure (f.offset,← sizeOf f.type))) acc fs) σ Q
  | [],[],acc,_,h=>by
    have e1:acc ++ (Gs [] []).toArray = acc:=by simp [Gs]
    rw [e1] at h
    exact h
  | f :: fs,n :: ns,acc,hs,h=>by
    rw [List.foldlM_cons]
    show wpS P ρ (Sem.bind _ _) σ Q
    rw [Ad]
    show wpS P ρ (Sem.bind (Sem.bind (sizeOf f.type) _) _) σ _
    rw [Ad,Ad]
    refine Dx hs.1 ?_
    show wpS P ρ (List.foldlM _ (acc.push (f.offset,n)) fs) σ Q
    refine Ux fs ns _ hs.2 ?_
    have e1:acc.push (f.offset,n) ++ (Gs fs ns).toArray = acc ++ (Gs (f :: fs) (n :: ns)).toArray:=by
      apply Array.ext'; simp [Gs]
    rw [e1]; exact h
theorem Be {place:Nat→Option (Nat × Nat)} {c cs:List Value} {i off:Nat} {v:Value} {rest:List (Nat × Value)} (hv:v.cells = cs.toArray) (hp:place i = some (off,cs.length)) (hl:off + cs.length ≤ c.length) :
    Instr.fill place c.toArray ((i,v) :: rest) = Instr.fill place (over c off cs).toArray rest:=by
  simp only [Instr.fill,hp,hv]
  have hcond:(decide (cs.toArray.size ≠ cs.length) || decide (off + cs.toArray.size > c.toArray.size)) = false:=by
    simp only [List.size_toArray,Bool.or_eq_false_iff,decide_eq_false_iff_not]
    exact ⟨by simp,by omega⟩
  rw [if_neg (by simpa using hcond)]
  congr 1
  have:=Pd cs c off 0
  rw [← Array.foldl_toList]
  simp only [Array.toList_zipIdx,List.toList_toArray]
  rw [this,Nat.add_zero]
theorem Dn {fs:List Field} {ns:List Nat} {z:Value} {zc cs:List Value} {ps:List (Nat × Operand)} {vs:List (Nat × Value)} (hT:P.underlying t = some (.struct fs.toArray)) (hz:Fw P t z) (hzc:z.cells = zc.toArray) (hn:Wu P fs ns)
    (hp:ps.map (fun p=>(p.1,Af e p.2)) = vs) (hf:Instr.fill ((Gs fs ns)[·]?) zc.toArray vs = some cs.toArray):Yld P ρ e (.build t ps.toArray) ty (.agg cs.toArray) :=
  Mt (s:=Instr.build t (ps.toArray.map fun (p:Nat × Operand)=>(p.1,Af e p.2))) (fun _ _ _ _=>rfl) fun ρ' σ _=>by
    have hps:(ps.toArray.map fun (p:Nat × Operand)=>(p.1,Af e p.2)) = vs.toArray:=by rw [← hp]; simp
    rw [hps]
    unfold Instr.build
    show wpS P ρ' ((zeroValue t).bind _) σ _
    rw [Ad]
    refine Jz hz ?_
    show wpS P ρ' ((underlying t).bind _) σ _
    rw [Ad]
    refine Az hT ?_
    dsimp only
    show wpS P ρ' (Sem.bind _ _) σ _
    rw [Ad,Array.mapM_eq_foldlM,List.foldlM_toArray]
    refine Ux fs ns #[] hn ?_
    have e1:(fun (x:Nat)=>(#[] ++ (Gs fs ns).toArray)[x]?) = fun (x:Nat)=>(Gs fs ns)[x]?:=by funext x; simp
    simp only [e1,hzc,hf]
    exact ⟨rfl,rfl⟩
def EvB (e:Env):List (Nat × Operand)→List (Nat × Value)→Prop
  | [],[]=>True
  | p :: ps,q :: qs=>(p.1 = q.1∧Af e p.2 = q.2)∧EvB e ps qs
  | _,_=>False
theorem EvB.map {e:Env}:∀ {ps:List (Nat × Operand)} {qs:List (Nat × Value)},EvB e ps qs→ps.map (fun p=>(p.1,Af e p.2)) = qs
  | [],[],_=>rfl
  | p :: ps,q :: qs,h=>by
    rw [List.map_cons,EvB.map h.2,h.1.1,h.1.2]
  | [],_ :: _,h=>h.elim
  | _ :: _,[],h=>h.elim
theorem Val.single_l {α:Type} [Dat α] {ρ:Ro} {v:Value} {xs:List α} (h:Val ρ v xs):single v = true:=by
  obtain ⟨a,len,cap,h1,_⟩:=Cs.1 h
  rw [h1]; rfl
theorem Val.cells_l {α:Type} [Dat α] {ρ:Ro} {v:Value} {xs:List α} (h:Val ρ v xs):v.cells = [v].toArray:=Qm h.single_l
theorem Grow.single {α:Type} [Dat α] {ρ:Ro} {el:TypeId} {v:Value} {xs:List α} {gr:Own} (h:Grow ρ el v xs gr):single v = true:=by
  rcases h.2.2 with ⟨h1,_⟩ | ⟨r,cap,cs,rs,gb,h1,_⟩ <;> rw [h1] <;> rfl
theorem Cb {r off off0 off' i:Nat} {fs:Array Field} {f:Field} {n':Nat} (hT:P.underlying t = some (.struct fs)) (hi:fs[i]? = some f) (ho:f.offset = off0) (hF:∃ i,P.info? f.type = some i∧i.size = n') (hk:n' ≠ 0) (hx:Af e x = .pointer (some ⟨r,off,none⟩)) (ho':off + off0 = off') :
    Yld P ρ e (.fieldAddr t x i) ty (.pointer (some ⟨r,off',none⟩)):=Ajt hT hi ho hF hk hx ho'
theorem Cq {r off off' len k':Nat} {el:TypeId} {k:IntKind} {q:Int} (i:Nat) (hT:P.underlying t = some (.array len el)) (hE:∃ i,P.info? el = some i∧i.size = k') (hx:Af e x = .pointer (some ⟨r,off,none⟩)) (hy:Af e y = .int k q) (hq:q = (i:Int)) (hi:i < len) (ho:off + i * k' = off') :
    Yld P ρ e (.indexAddr t x y) ty (.pointer (some ⟨r,off',none⟩)):=Aju i hT hE hx hy hq hi ho
theorem Afy {r off off' len cap k':Nat} {el:TypeId} {k:IntKind} {q:Int} (i:Nat) (hT:P.underlying t = some (.slice el)) (hE:∃ i,P.info? el = some i∧i.size = k') (hx:Af e x = .slice (some ⟨r,off,none⟩) len cap) (hy:Af e y = .int k q) (hq:q = (i:Int)) (hi:i < len) (ho:off + i * k' = off') :
    Yld P ρ e (.indexAddr t x y) ty (.pointer (some ⟨r,off',none⟩)):=Ajv i hT hE hx hy hq hi ho
def Apk:List Value→Prop
  | []=>True
  | v :: vs=>single v = true∧Apk vs
theorem Zh:∀ {vs:List Value},Apk vs→∀ w ∈ vs,single w = true
  | [],_,w,h=>by cases h
  | v :: vs,hs,w,h=>by
    rcases List.mem_cons.1 h with rfl | h
    · exact hs.1
    · exact Zh hs.2 w h
theorem Aca {dir:ChanDir} {el:TypeId} {ti:TypeInfo} {k:IntKind} (hT:C.P.underlying t = some (.chan dir el)) (hi:C.P.info? el = some ti) (hx:Af e x = .int k 0) (h:∀ r,K (.chan (some r)) ds ρ ((r,.chan) :: σ)) :
    wpS C.P ρ (execOp (Af e) ⟨dd,.makeChan t x,ty,pos,af,g⟩) σ (NextH C K rd ds ρ):=by
  show wpS C.P ρ ((Instr.makeChan t (Af e x)).bind _) σ _
  refine Gd ?_
  rw [hx]
  show wpS C.P ρ ((underlying t).bind _) σ _
  rw [Ad]
  refine Az hT ?_
  show wpS C.P ρ ((typeInfo el).bind _) σ _
  rw [Ad]
  refine Gj hi ?_
  have hmx:¬ ((0:Int) < 0∨(0:Int) > IntKind.i64.max∨(ti.bytes:Int) * 0 > 2 ^ 48 - 112):=by
    have:IntKind.i64.max = 9223372036854775807:=by simp [IntKind.max,IntKind.signed,IntKind.bits]
    omega
  show wpS C.P ρ (if ((0:Int) < 0∨(0:Int) > IntKind.i64.max∨(ti.bytes:Int) * 0 > 2 ^ 48 - 112) then _ else _) σ _
  rw [if_neg hmx]
  show wpS C.P ρ ((newObj (.chan 0 #[] false 0 0 false)).bind _) σ _
  rw [Ad]
  exact .inr ⟨rfl,fun r=>h r⟩
end
section
variable {P:Program} {b:FB} {n:Nat} {l₀ rest:List Oper} {Q:Env→List Deferred→Ro→Own→Prop} {e:Env} {ds:List Deferred} {ρ:Ro} {σ:Own}
variable {d:Nat} {ty t:TypeId} {pos:String} {af:Array Edge} {g:Option (Nat × Bool)} {x:Operand} {v z:Value}
theorem Ars {c:Call} {df:Deferred} {i ch:Nat} {vs:List Value} (hw:Bz l₀.toArray ⟨none,.go c,ty,pos,af,g⟩ e = true) (hd:resolve (Af e) c ty = pure df) (hnil:∃ f fs,df.target = .fn f fs) (hn:Jp σ) (hi:σ[i]? = some (ch,Res.chan))
    (hS:SendI P ch vs (Gg P df) [] ρ []) (h:Ey (Iw P) b n l₀ rest Q e ds ρ (σ.set i (ch,.recv vs))):Ey (Iw P) b n l₀ (⟨none,.go c,ty,pos,af,g⟩ :: rest) Q e ds ρ σ:=by
  intro pre hpre hs hk tm k cs ht
  have ho:l₀.toArray[pre.length]? = some ⟨none,.go c,ty,pos,af,g⟩:=by subst hpre; simp
  rw [List.length_cons,List.range'_succ]
  have hrest:=h (pre ++ [⟨none,.go c,ty,pos,af,g⟩]) (by rw [hpre]; simp) hs hk
  rw [List.length_append,List.length_singleton] at hrest
  have hev:=ht.eval b ds (.inRegion l₀.toArray (pre.length :: List.range' (pre.length + 1) rest.length) :: k)
  have hex:execOp (Af e) ⟨none,.go c,ty,pos,af,g⟩ = (pure (.spawn df):Sem Next):=by
    show ((resolve (Af e) c ty).bind fun d=>pure (Next.spawn d)) = _
    rw [hd]; rfl
  refine .ext (K:=fun fr' cs' ρ' σ'=>fr' = (Fr b tm ds (.inRegion l₀.toArray (pre.length :: List.range' (pre.length + 1) rest.length) :: k)).finish undef∧cs' = cs∧ρ' = ρ∧σ' = σ.set i (ch,.recv vs))
    (.inl ⟨df,i,ch,vs,_,fun W=>?_,hn,hi,hS,rfl,rfl,rfl,rfl⟩) ?_
  · have hst:=Np (C:=Iw P) (b:=b) (ds:=ds) (tm:=tm) (k:=k) (cs:=cs) (rest:=List.range' (pre.length + 1) rest.length) ho (by rw [Ij hs ht]; exact hw) (fun c' h'=>by cases h') W
    refine hst.trans ?_
    rw [hev,hex]
    have hk':(b.kind == CallKind.early) = false:=by cases hb:b.kind <;> simp_all <;> rfl
    obtain ⟨tg,ar⟩:=df
    obtain ⟨f,fs,hnil⟩:=hnil
    simp only at hnil
    subst hnil
    simp [stepG.apply,Sem.runT,pure,hk',GStep.after,Conc.G,Gg,Fr,seen,Iw]
  · rintro _ _ _ _ ⟨rfl,rfl,rfl,rfl⟩
    rw [Ju ho]
    exact hrest tm k _ ht
theorem Ait {el:TypeId} {dir:ChanDir} {c:Nat} (hT:P.underlying t = some (.chan dir el)) (hz:Fw P el z) (hx:Af e x = .chan (some c)) (W:World) :
    (execOp (Af e) ⟨some d,.recv t x true,ty,pos,af,g⟩).runT P W #[] = (.ok (.comm #[Conc.rcase c z] true (.recv true)) W,#[]):=by
  obtain ⟨ti,h1,h2⟩:=hz
  show ((underlying t).bind _:Sem Next).runT P W #[] = _
  rw [Sem.runT_bind']
  have e1:(underlying t).runT P W #[] = (.ok (.chan dir el) W,#[]):=by
    show Sem.runT P (match P.underlying t with | some i=>pure i | none=>_) W #[] = _
    rw [hT]; rfl
  rw [e1]
  show ((zeroValue el).bind _:Sem Next).runT P W #[] = _
  rw [Sem.runT_bind']
  have e2:(zeroValue el).runT P W #[] = (.ok z W,#[]):=by
    show Sem.runT P ((typeInfo el).bind _) W #[] = _
    rw [Sem.runT_bind']
    have e3:(typeInfo el).runT P W #[] = (.ok ti W,#[]):=by
      show Sem.runT P (match P.info? el with | some i=>pure i | none=>_) W #[] = _
      rw [h1]; rfl
    rw [e3]
    simp only [h2]
    rfl
  rw [e2,hx]
  rfl
theorem Adl {el:TypeId} {dir:ChanDir} {c:Nat} (hT:P.underlying t = some (.chan dir el)) (hz:Fw P el z) (hx:Af e x = .chan (some c)) {i:Nat} {rs:List Nat} {tm:Array Value} {k:List Item} {cs:List Frame} (ho:l₀.toArray[i]? = some ⟨some d,.recv t x true,ty,pos,af,g⟩) (hw:Bz l₀.toArray ⟨some d,.recv t x true,ty,pos,af,g⟩ e = true)
    (hs:Fu n l₀.toArray = true) (hk:b.kind ≠ .early) (ht:EnvOf n tm e):Sv P c z (Fr b tm ds (.inRegion l₀.toArray (i :: rs) :: k)) cs:=by
  intro W
  have hev:=ht.eval b ds (.inRegion l₀.toArray (i :: rs) :: k)
  have hst:=Np (C:=Iw P) (b:=b) (ds:=ds) (tm:=tm) (k:=k) (cs:=cs) (rest:=rs) ho (by rw [Ij hs ht]; exact hw) (fun c' h'=>by cases h') W
  refine hst.trans ?_
  rw [hev]
  have hk':(b.kind == CallKind.early) = false:=by cases hb:b.kind <;> simp_all <;> rfl
  have hr:=Ait (P:=P) (d:=d) (ty:=ty) (pos:=pos) (af:=af) (g:=g) hT hz hx W
  simp only [Iw] at *
  simp [stepG.apply,-Sem.runT_eq,hr,hk',GStep.after,Conc.G,Fr,seen]
theorem Anh {el:TypeId} {dir:ChanDir} {c i:Nat} {vs:List Value} (hw:Bz l₀.toArray ⟨some d,.recv t x true,ty,pos,af,g⟩ e = true) (hT:P.underlying t = some (.chan dir el)) (hz:Fw P el z) (hx:Af e x = .chan (some c)) (hi:σ[i]? = some (c,Res.recv (v :: vs)))
    (h:Ey (Iw P) b n l₀ rest Q (upd e d (.tuple #[v,.bool true])) ds ρ (σ.set i (c,.recv vs))):Ey (Iw P) b n l₀ (⟨some d,.recv t x true,ty,pos,af,g⟩ :: rest) Q e ds ρ σ:=by
  intro pre hpre hs hk tm k cs ht
  have ho:l₀.toArray[pre.length]? = some ⟨some d,.recv t x true,ty,pos,af,g⟩:=by subst hpre; simp
  rw [List.length_cons,List.range'_succ]
  have hrest:=h (pre ++ [⟨some d,.recv t x true,ty,pos,af,g⟩]) (by rw [hpre]; simp) hs hk
  rw [List.length_append,List.length_singleton] at hrest
  refine .ext (K:=fun fr' cs' ρ' σ'=>fr' = (Fr b tm ds (.inRegion l₀.toArray (pre.length :: List.range' (pre.length + 1) rest.length) :: k)).finish (.tuple #[v,.bool true])∧cs' = cs∧ρ' = ρ∧σ' = σ.set i (c,.recv vs))
    (.inr (.inl ⟨i,c,v,vs,z,Adl hT hz hx ho hw hs hk ht,hi,rfl,rfl,rfl,rfl⟩)) ?_
  rintro _ _ _ _ ⟨rfl,rfl,rfl,rfl⟩
  rw [Ju ho]
  exact hrest _ k _ (Jj hs ht ho _)
theorem Afb {el:TypeId} {dir:ChanDir} {c i:Nat} (hw:Bz l₀.toArray ⟨some d,.recv t x true,ty,pos,af,g⟩ e = true) (hT:P.underlying t = some (.chan dir el)) (hz:Fw P el z) (hx:Af e x = .chan (some c)) (hi:σ[i]? = some (c,Res.recv []))
    (h:Ey (Iw P) b n l₀ rest Q (upd e d (.tuple #[z,.bool false])) ds ρ (σ.eraseIdx i)):Ey (Iw P) b n l₀ (⟨some d,.recv t x true,ty,pos,af,g⟩ :: rest) Q e ds ρ σ:=by
  intro pre hpre hs hk tm k cs ht
  have ho:l₀.toArray[pre.length]? = some ⟨some d,.recv t x true,ty,pos,af,g⟩:=by subst hpre; simp
  rw [List.length_cons,List.range'_succ]
  have hrest:=h (pre ++ [⟨some d,.recv t x true,ty,pos,af,g⟩]) (by rw [hpre]; simp) hs hk
  rw [List.length_append,List.length_singleton] at hrest
  refine .ext (K:=fun fr' cs' ρ' σ'=>fr' = (Fr b tm ds (.inRegion l₀.toArray (pre.length :: List.range' (pre.length + 1) rest.length) :: k)).finish (.tuple #[z,.bool false])∧cs' = cs∧ρ' = ρ∧σ' = σ.eraseIdx i)
    (.inr (.inr ⟨i,c,z,Adl hT hz hx ho hw hs hk ht,hi,rfl,rfl,rfl,rfl⟩)) ?_
  rintro _ _ _ _ ⟨rfl,rfl,rfl,rfl⟩
  rw [Ju ho]
  exact hrest _ k _ (Jj hs ht ho _)
end
end Go.Proofs.YtphgjjmlnkgghaaGreatDoor

namespace Go.Proofs.YtphgjjmlnkgghaaGreatDoor
open Go
/-- The members of a set that is told by bits. -/
def Av (s:Nat):List Nat:=(List.range 16).filter (Cu s)
def Bf (l:List Nat):Nat:=l.foldl (fun a x=>a ||| 1 <<< x) 0
theorem Abi (l:List Nat) (a k:Nat):(l.foldl (fun a x=>a ||| 1 <<< x) a).testBit k = (a.testBit k || l.contains k):=by
  induction l generalizing a with
  | nil=>simp
  | cons x l ih =>
    simp only [List.foldl_cons,ih,Nat.testBit_or,List.contains_cons]
    have:(1 <<< x).testBit k = (k == x):=by
      rw [Nat.one_shiftLeft,Nat.testBit_two_pow]
      by_cases h:x = k
      · simp [h]
      · simp [h,Ne.symm h]
    rw [this,Bool.or_assoc]
theorem Ng (l:List Nat) (k:Nat):(Bf l).testBit k = l.contains k:=by
  unfold Bf; rw [Abi]; simp
theorem Ez (s k:Nat):Cu s k = s.testBit k:=by
  unfold Cu Nat.testBit
  rw [Nat.one_and_eq_mod_two]
  rcases Nat.mod_two_eq_zero_or_one (s >>> k) with h | h <;> simp [h]
theorem Sl {l:List Nat} {n:Nat} (h:∀ a ∈ l,a < n):Bf l < 2 ^ n:=by
  refine Nat.lt_pow_two_of_testBit _ fun i hi=>?_
  rw [Ng]
  simp only [List.contains_eq_mem,decide_eq_false_iff_not]
  exact fun hm=>absurd (h i hm) (by omega)
theorem Lz {s a:Nat}:a ∈ Av s↔a < 16∧s.testBit a = true:=by
  simp [Av,Ez]
theorem Vo (s:Nat):(Av s).Sublist (List.range 16):=List.filter_sublist ..
theorem Pt {s a:Nat} (h:a ∈ Av s):a < 16:=(Lz.1 h).1
theorem Tl {l:List Nat} (h:l.Sublist (List.range 16)):Av (Bf l) = l:=by
  have h1:Av (Bf l) = (List.range 16).filter (fun a=>l.contains a):=by
    unfold Av
    congr 1
    funext a
    rw [Ez,Ng]
  rw [h1]
  have hnd:(List.range 16).Nodup:=List.nodup_range
  clear h1
  revert h hnd
  generalize List.range 16 = r
  intro h hnd
  induction h with
  | slnil=>rfl
  | cons a h ih =>
    rename_i l1 l2
    rw [List.nodup_cons] at hnd
    have ha:¬ a ∈ l1:=fun hm=>hnd.1 (h.subset hm)
    rw [List.filter_cons_of_neg (by simpa using ha)]
    exact ih hnd.2
  | cons_cons a h ih =>
    rename_i l1 l2
    rw [List.nodup_cons] at hnd
    rw [List.filter_cons_of_pos (by simp)]
    have h2:l2.filter (fun x=>(a :: l1).contains x) = l2.filter (fun x=>l1.contains x):=by
      apply List.filter_congr
      intro x hx
      have hxa:x ≠ a:=fun e=>hnd.1 (e ▸ hx)
      simp [hxa]
    rw [h2,ih hnd.2]
theorem Abh {s:Nat} (h:s < 65536):Bf (Av s) = s:=by
  apply Nat.eq_of_testBit_eq
  intro i
  rw [Ng]
  by_cases hi:i < 16
  · cases ht:s.testBit i with
    | true=>simp [Lz,hi,ht]
    | false=>simp [Lz,ht]
  · have:s.testBit i = false:=Nat.testBit_lt_two_pow (Nat.lt_of_lt_of_le h (by show 2 ^ 16 ≤ 2 ^ i; exact Nat.pow_le_pow_right (by omega) (by omega)))
    rw [this]
    simp only [List.contains_eq_mem,decide_eq_false_iff_not]
    exact fun hm=>hi (Pt hm)
end Go.Proofs.YtphgjjmlnkgghaaGreatDoor

namespace Go.Proofs.YtphgjjmlnkgghaaGreatDoor
open Go
def Df:Nat→(Nat→Int)→Int
  | 0,_=>0
  | n + 1,f=>Df n f + f n
theorem Et {n:Nat} {f g:Nat→Int} (h:∀ i,i < n→f i = g i):Df n f = Df n g:=by
  induction n with
  | zero=>rfl
  | succ n ih=>simp only [Df]; rw [ih fun i hi=>h i (by omega),h n (by omega)]
theorem Oe {n:Nat} {f g:Nat→Int} (h:∀ i,i < n→f i ≤ g i):Df n f ≤ Df n g:=by
  induction n with
  | zero=>exact Int.le_refl _
  | succ n ih=>simp only [Df]; have:=ih fun i hi=>h i (by omega); have:=h n (by omega); omega
theorem Alx {n k:Nat} {f g:Nat→Int} (h:∀ i,i < n→f i ≤ g i) (hk:k < n) (hlt:f k < g k):Df n f < Df n g:=by
  induction n with
  | zero=>omega
  | succ n ih =>
    simp only [Df]
    by_cases hkn:k = n
    · subst hkn
      have:=Oe (n:=k) (f:=f) (g:=g) fun i hi=>h i (by omega)
      omega
    · have:=ih (fun i hi=>h i (by omega)) (by omega); have:=h n (by omega); omega
theorem Ii {n:Nat} {f:Nat→Int} (h:∀ i,i < n→f i = 0):Df n f = 0:=by
  induction n with
  | zero=>rfl
  | succ n ih=>simp only [Df]; rw [ih fun i hi=>h i (by omega),h n (by omega)]; rfl
theorem Sa {n:Nat} {f:Nat→Int} (h:∀ i,i < n→0 ≤ f i):0 ≤ Df n f:=by
  have:=Oe (n:=n) (f:=fun _=>0) (g:=f) h
  rw [Ii fun _ _=>rfl] at this; exact this
theorem Ajf {n:Nat} {f g:Nat→Int}:Df n (fun i=>f i + g i) = Df n f + Df n g:=by
  induction n with
  | zero=>rfl
  | succ n ih=>simp only [Df,ih]; omega
theorem Wf {n k:Nat} {f:Nat→Nat→Int}:Df n (fun i=>Df k (fun j=>f i j)) = Df k (fun j=>Df n (fun i=>f i j)):=by
  induction n with
  | zero=>simp only [Df]; rw [Ii fun _ _=>rfl]
  | succ n ih=>simp only [Df,ih]; rw [← Ajf]
theorem Zk {n:Nat} {p:Prop} [Decidable p] {f:Nat→Int}:Df n (fun i=>if p then f i else 0) = if p then Df n f else 0:=by
  split
  · rfl
  · exact Ii fun _ _=>rfl
/-- One summand differs. -/
theorem Mb {n k:Nat} {f g:Nat→Int} (hk:k < n) (h:∀ i,i < n→i ≠ k→g i = f i):Df n g = Df n f + (g k - f k):=by
  induction n with
  | zero=>omega
  | succ n ih =>
    simp only [Df]
    by_cases hkn:k = n
    · subst hkn
      rw [Et (g:=f) fun i hi=>h i (by omega) (by omega)]; omega
    · rw [ih (by omega) fun i hi hik=>h i (by omega) hik,h n (by omega) (by omega)]; omega
/-- Two summands differ,by as much. -/
theorem Afo {n k l:Nat} {f g:Nat→Int} (hk:k < n) (hl:l < n) (hkl:k ≠ l) (h:∀ i,i < n→i ≠ k→i ≠ l→g i = f i):Df n g = Df n f + (g k - f k) + (g l - f l):=by
  have h1:=Mb (n:=n) (k:=k) (f:=f) (g:=fun i=>if i = k then g k else f i) hk (fun i _ hik=>by simp [hik])
  have h2:=Mb (n:=n) (k:=l) (f:=fun i=>if i = k then g k else f i) (g:=g) hl (fun i hi hil=>by
    by_cases hik:i = k
    · simp [hik]
    · simp [hik,h i hi hik hil])
  simp only [if_true,if_neg (Ne.symm hkl)] at h1 h2
  omega
def xg (xs:List Int) (i:Nat):Int:=xs.getD i 0
def pt (xs:List Int) (s h:Nat):Int:=xg xs (s * 5 + h)
def lf (xs:List Int) (h:Nat):Int:=xg xs (40 + h)
def Fv (xs:List Int) (s:Nat):Int:=Df 5 (pt xs s)
structure FlowOk (sl:Nat→Nat→Bool) (cap:Nat→Int) (xs:List Int):Prop where
  len:xs.length = 45
  pos:∀ s h,s < 8→h < 5→0 ≤ pt xs s h
  left:∀ h,h < 5→0 ≤ lf xs h
  sells:∀ s h,s < 8→h < 5→pt xs s h ≠ 0→sl s h = true
  all:∀ h,h < 5→Df 8 (fun s=>pt xs s h) + lf xs h = cap h
theorem Lp {xs:List Int} {i k:Nat} {v:Int} (hi:i < xs.length):xg (xs.set i v) k = if k = i then v else xg xs k:=by
  unfold xg
  rw [List.getD_eq_getElem?_getD,List.getD_eq_getElem?_getD,List.getElem?_set]
  by_cases h:i = k
  · subst h; simp [hi]
  · simp [h,Ne.symm h]
/-- Some of what a house has left goes into a sale. -/
def give (xs:List Int) (s h:Nat) (n:Int):List Int:=(xs.set (40 + h) (xg xs (40 + h) - n)).set (s * 5 + h) (xg (xs.set (40 + h) (xg xs (40 + h) - n)) (s * 5 + h) + n)
theorem Si {xs:List Int} {s h s' h':Nat} {n:Int} (hl:xs.length = 45) (hs:s < 8) (hh:h < 5) (hs':s' < 8) (hh':h' < 5):pt (give xs s h n) s' h' = if s' = s∧h' = h then pt xs s h + n else pt xs s' h':=by
  unfold give pt
  rw [Lp (by simp; omega),Lp (by omega),Lp (by omega)]
  by_cases e:s' = s∧h' = h
  · obtain ⟨rfl,rfl⟩:=e
    simp only [and_self,if_true]
    rw [if_neg (by omega)]
  · rw [if_neg e,if_neg (by omega),if_neg (by omega)]
theorem Ald {xs:List Int} {s h h':Nat} {n:Int} (hl:xs.length = 45) (hs:s < 8) (hh:h < 5) (hh':h' < 5):lf (give xs s h n) h' = if h' = h then lf xs h - n else lf xs h':=by
  unfold give lf
  rw [Lp (by simp; omega),if_neg (by omega),Lp (by omega)]
  by_cases e:h' = h
  · subst e; simp
  · rw [if_neg (by omega),if_neg e]
theorem Ahy {xs:List Int} {s h:Nat} {n:Int}:(give xs s h n).length = xs.length:=by simp [give]
/-- A house sells some of one sale,and as much less of another one. -/
def shift (xs:List Int) (o s h:Nat) (n:Int):List Int:=(xs.set (o * 5 + h) (xg xs (o * 5 + h) - n)).set (s * 5 + h) (xg (xs.set (o * 5 + h) (xg xs (o * 5 + h) - n)) (s * 5 + h) + n)
theorem Afm {xs:List Int} {o s h:Nat} {n:Int}:(shift xs o s h n).length = xs.length:=by simp [shift]
theorem Ql {xs:List Int} {o s h s' h':Nat} {n:Int} (hl:xs.length = 45) (hos:o ≠ s) (ho:o < 8) (hs:s < 8) (hh:h < 5) (hs':s' < 8) (hh':h' < 5) :
    pt (shift xs o s h n) s' h' = if h' = h then (if s' = s then pt xs s h + n else if s' = o then pt xs o h - n else pt xs s' h') else pt xs s' h':=by
  unfold shift pt
  rw [Lp (by simp; omega),Lp (by omega),Lp (by omega)]
  by_cases e:h' = h
  · subst e
    rw [if_pos rfl]
    by_cases e1:s' = s
    · subst e1; rw [if_pos rfl,if_pos rfl,if_neg (by omega)]
    · rw [if_neg (by omega),if_neg e1]
      by_cases e2:s' = o
      · subst e2; rw [if_pos rfl,if_pos rfl]
      · rw [if_neg (by omega),if_neg e2]
  · rw [if_neg e,if_neg (by omega),if_neg (by omega)]
theorem Zi {xs:List Int} {o s h h':Nat} {n:Int} (hl:xs.length = 45) (ho:o < 8) (hs:s < 8) (hh:h < 5) (hh':h' < 5):lf (shift xs o s h n) h' = lf xs h':=by
  unfold shift lf
  rw [Lp (by simp; omega),if_neg (by omega),Lp (by omega),if_neg (by omega)]
theorem FlowOk.give {sl:Nat→Nat→Bool} {cap:Nat→Int} {xs:List Int} (ok:FlowOk sl cap xs) {s h:Nat} {n:Int} (hs:s < 8) (hh:h < 5) (h0:0 ≤ n) (hn:n ≤ lf xs h) (hsl:sl s h = true):FlowOk sl cap (give xs s h n):=by
  have hp:=fun {s' h'} (a:s' < 8) (b:h' < 5)=>Si (n:=n) ok.len hs hh a b
  have hq:=fun {h'} (b:h' < 5)=>Ald (n:=n) ok.len hs hh b
  refine ⟨by rw [Ahy]; exact ok.len,fun s' h' a b=>?_,fun h' b=>?_,fun s' h' a b=>?_,fun h' b=>?_⟩
  · rw [hp a b]; split
    · have:=ok.pos s h hs hh; omega
    · exact ok.pos s' h' a b
  · rw [hq b]; split
    · omega
    · exact ok.left h' b
  · rw [hp a b]; split
    · rename_i e; rw [e.1,e.2]; exact fun _=>hsl
    · exact ok.sells s' h' a b
  · rw [hq b,← ok.all h' b]
    by_cases e:h' = h
    · subst e
      rw [if_pos rfl,Mb (k:=s) (f:=fun s'=>pt xs s' h') hs (fun i hi hik=>by simp only [hp hi b]; rw [if_neg (by simp [hik])])]
      simp only [hp hs b,and_self,if_true]; omega
    · rw [if_neg e,Et (g:=fun s'=>pt xs s' h') fun i hi=>by simp only [hp hi b]; rw [if_neg (by simp [e])]]
theorem FlowOk.shift {sl:Nat→Nat→Bool} {cap:Nat→Int} {xs:List Int} (ok:FlowOk sl cap xs) {o s h:Nat} {n:Int} (hos:o ≠ s) (ho:o < 8) (hs:s < 8) (hh:h < 5) (h0:0 ≤ n) (hn:n ≤ pt xs o h) (hsl:sl s h = true) (hn0:pt xs o h ≠ 0):FlowOk sl cap (shift xs o s h n):=by
  have hp:=fun {s' h'} (a:s' < 8) (b:h' < 5)=>Ql (n:=n) ok.len hos ho hs hh a b
  refine ⟨by rw [Afm]; exact ok.len,fun s' h' a b=>?_,fun h' b=>?_,fun s' h' a b=>?_,fun h' b=>?_⟩
  · rw [hp a b]
    have:=ok.pos s h hs hh; have:=ok.pos s' h' a b
    repeat' split
    all_goals omega
  · rw [Zi ok.len ho hs hh b]; exact ok.left h' b
  · rw [hp a b]
    split
    · rename_i e; subst e
      split
      · rename_i e; subst e; exact fun _=>hsl
      · split
        · rename_i e; subst e; exact fun _=>ok.sells _ _ a b hn0
        · exact ok.sells s' h' a b
    · exact ok.sells s' h' a b
  · rw [Zi ok.len ho hs hh b,← ok.all h' b]
    by_cases e:h' = h
    · subst e
      rw [Afo (k:=s) (l:=o) (f:=fun s'=>pt xs s' h') hs ho (Ne.symm hos) (fun i hi h1 h2=>by simp only [hp hi b]; simp [h1,h2])]
      simp only [hp hs b,hp ho b,if_true,if_neg hos]; omega
    · rw [Et (g:=fun s'=>pt xs s' h') fun i hi=>by simp only [hp hi b]; rw [if_neg e]]
theorem Wd {xs:List Int} (hl:xs.length = 45) {s h s':Nat} {n:Int} (hs:s < 8) (hh:h < 5) (hs':s' < 8):Fv (give xs s h n) s' = if s' = s then Fv xs s + n else Fv xs s':=by
  have hp:=fun {h'} (b:h' < 5)=>Si (n:=n) hl hs hh hs' b
  unfold Fv
  by_cases e:s' = s
  · subst e
    rw [if_pos rfl,Mb (k:=h) (f:=pt xs s') hh (fun i hi hik=>by rw [hp hi,if_neg (by simp [hik])]),hp hh,if_pos ⟨rfl,rfl⟩]; omega
  · rw [if_neg e]; exact Et fun i hi=>by rw [hp hi,if_neg (by simp [e])]
theorem Uk {xs:List Int} (hl:xs.length = 45) {o s h s':Nat} {n:Int} (hos:o ≠ s) (ho:o < 8) (hs:s < 8) (hh:h < 5) (hs':s' < 8):Fv (shift xs o s h n) s' = if s' = s then Fv xs s + n else if s' = o then Fv xs o - n else Fv xs s':=by
  have hp:=fun {h'} (b:h' < 5)=>Ql (n:=n) hl hos ho hs hh hs' b
  unfold Fv
  by_cases e:s' = s
  · subst e
    rw [if_pos rfl,Mb (k:=h) (f:=pt xs s') hh (fun i hi hik=>by rw [hp hi,if_neg hik]),hp hh,if_pos rfl,if_pos rfl]; omega
  · rw [if_neg e]
    by_cases e2:s' = o
    · subst e2
      rw [if_pos rfl,Mb (k:=h) (f:=pt xs s') hh (fun i hi hik=>by rw [hp hi,if_neg hik]),hp hh,if_pos rfl,if_neg e,if_pos rfl]; omega
    · rw [if_neg e2]; exact Et fun i hi=>by rw [hp hi]; simp [e,e2]
/-- What has newly been tried is closed: nothing is left there,and whoever sells there for others has been tried too. -/
def Clo (sl:Nat→Nat→Bool) (xs:List Int) (tr tr':Nat→Bool):Prop:=∀ s,s < 8→tr s = false→tr' s = true→∀ h,h < 5→sl s h = true→lf xs h = 0∧∀ o,o < 8→pt xs o h ≠ 0→tr' o = true
theorem Clo.refl {sl:Nat→Nat→Bool} {xs:List Int} {tr:Nat→Bool}:Clo sl xs tr tr:=fun s _ h1 h2=>by rw [h1] at h2; cases h2
theorem Clo.trans {sl:Nat→Nat→Bool} {xs:List Int} {tr tr1 tr2:Nat→Bool} (h:Clo sl xs tr tr1) (h':Clo sl xs tr1 tr2) (hm:∀ s,tr1 s = true→tr2 s = true):Clo sl xs tr tr2:=fun s hs h1 h2 k hk hsl=>by
  cases h3:tr1 s with
  | true =>
    obtain ⟨h4,h5⟩:=h s hs h1 h3 k hk hsl
    exact ⟨h4,fun o ho hp=>hm o (h5 o ho hp)⟩
  | false=>exact h' s hs h3 h2 k hk hsl
/-- The demand of each set of sales is at most what its sellers have. -/
def nbr (sl:Nat→Nat→Bool) (T:Nat→Bool) (h:Nat):Bool:=(List.range 8).any fun s=>T s && sl s h
theorem Adg {sl:Nat→Nat→Bool} {T:Nat→Bool} {h:Nat}:nbr sl T h = true↔∃ s,s < 8∧T s = true∧sl s h = true:=by simp [nbr]
def Age (sl:Nat→Nat→Bool) (cap:Nat→Int) (gr:Nat→Int):Prop:=∀ T:Nat→Bool,Df 8 (fun s=>if T s then gr s else 0) ≤ Df 5 (fun h=>if nbr sl T h then cap h else 0)
theorem Xd {sl:Nat→Nat→Bool} {cap:Nat→Int} {gr:Nat→Int} {xs:List Int} (ok:FlowOk sl cap xs) (hg:∀ s,s < 8→Fv xs s = gr s):Age sl cap gr:=by
  intro T
  have e1:Df 8 (fun s=>if T s then gr s else 0) = Df 5 (fun h=>Df 8 (fun s=>if T s then pt xs s h else 0)):=by
    rw [Wf]
    exact Et fun s hs=>by
      rw [Zk]
      by_cases ht:T s = true
      · rw [if_pos ht,if_pos ht,← hg s hs]; rfl
      · rw [if_neg ht,if_neg ht]
  rw [e1]
  refine Oe fun h hh=>?_
  by_cases hN:nbr sl T h = true
  · rw [if_pos hN,← ok.all h hh]
    have:=ok.left h hh
    have:Df 8 (fun s=>if T s then pt xs s h else 0) ≤ Df 8 (fun s=>pt xs s h):=Oe fun s hs=>by
      have:=ok.pos s h hs hh
      split
      · exact Int.le_refl _
      · exact this
    omega
  · rw [if_neg hN]
    refine Int.le_of_eq (Ii fun s hs=>?_)
    by_cases ht:T s = true
    · rw [if_pos ht]
      by_cases h0:pt xs s h = 0
      · exact h0
      · exact absurd (Adg.2 ⟨s,hs,ht,ok.sells s h hs hh h0⟩) hN
    · rw [if_neg ht]
theorem Ub {sl:Nat→Nat→Bool} {cap:Nat→Int} {gr:Nat→Int} {xs:List Int} (ok:FlowOk sl cap xs) {T:Nat→Bool} {k:Nat} (hk:k < 8) (hT:T k = true) (hc:Clo sl xs (fun _=>false) T) (hg:∀ s,s < 8→Fv xs s ≤ gr s) (hlt:Fv xs k < gr k):¬ Age sl cap gr:=by
  intro hall
  have h1:=hall T
  have e1:Df 5 (fun h=>if nbr sl T h then cap h else 0) = Df 8 (fun s=>if T s then Fv xs s else 0):=by
    have e2:Df 8 (fun s=>if T s then Fv xs s else 0) = Df 5 (fun h=>Df 8 (fun s=>if T s then pt xs s h else 0)):=by
      rw [Wf]
      exact Et fun s hs=>by rw [Zk]; rfl
    rw [e2]
    refine Et fun h hh=>?_
    by_cases hN:nbr sl T h = true
    · rw [if_pos hN]
      obtain ⟨s,hs,hts,hsl⟩:=Adg.1 hN
      obtain ⟨h2,h3⟩:=hc s hs rfl hts h hh hsl
      rw [← ok.all h hh,h2,Int.add_zero]
      refine Et fun o ho=>?_
      by_cases h0:pt xs o h = 0
      · rw [h0]; simp
      · rw [h3 o ho h0]; simp
    · rw [if_neg hN]
      symm
      refine Ii fun s hs=>?_
      by_cases ht:T s = true
      · rw [if_pos ht]
        by_cases h0:pt xs s h = 0
        · exact h0
        · exact absurd (Adg.2 ⟨s,hs,ht,ok.sells s h hs hh h0⟩) hN
      · rw [if_neg ht]
  rw [e1] at h1
  have h2:Df 8 (fun s=>if T s then Fv xs s else 0) < Df 8 (fun s=>if T s then gr s else 0):=Alx (k:=k) (fun s hs=>by
    have:=hg s hs
    split
    · exact this
    · exact Int.le_refl _) hk (by rw [hT]; simpa using hlt)
  omega
end Go.Proofs.YtphgjjmlnkgghaaGreatDoor

namespace Go.Proofs.YtphgjjmlnkgghaaGreatDoor
open Go
def subs {α:Type}:List α→List (List α)
  | []=>[[]]
  | a :: l=>subs l ++ (subs l).map (a :: ·)
theorem Aih {α:Type} {ss l:List α}:ss ∈ subs l↔ss.Sublist l:=by
  induction l generalizing ss with
  | nil=>simp [subs]
  | cons a l ih =>
    simp only [subs,List.mem_append,List.mem_map,ih]
    constructor
    · rintro (h | ⟨t,h,rfl⟩)
      · exact h.cons a
      · exact h.cons_cons a
    · intro h
      cases h with
      | cons _ h=>exact .inl h
      | cons_cons _ h=>exact .inr ⟨_,h,rfl⟩
/-- The elements whose numbers are in T. -/
def Mw {α:Type}:(Nat→Bool)→List α→List α
  | _,[]=>[]
  | T,a :: l=>(if T 0 then [a] else []) ++ Mw (fun i=>T (i + 1)) l
theorem Rm {α:Type} {T:Nat→Bool} {a:α} {l:List α}:Mw T (a :: l) = (if T 0 then [a] else []) ++ Mw (fun i=>T (i + 1)) l:=rfl
theorem selI_sub {α:Type}:∀ {T:Nat→Bool} {l:List α},(Mw T l).Sublist l
  | _,[]=>List.Sublist.refl _
  | T,a :: l=>by
    rw [Rm]
    cases T 0 with
    | true=>exact selI_sub.cons_cons a
    | false=>exact selI_sub.cons a
theorem Aje {α:Type} {ss l:List α} (h:ss.Sublist l):∃ T,Mw T l = ss:=by
  induction h with
  | slnil=>exact ⟨fun _=>false,rfl⟩
  | cons a h ih=>obtain ⟨T,hT⟩:=ih; exact ⟨fun i=>match i with | 0=>false | i + 1=>T i,by simp [Mw,hT]⟩
  | cons_cons a h ih=>obtain ⟨T,hT⟩:=ih; exact ⟨fun i=>match i with | 0=>true | i + 1=>T i,by simp [Mw,hT]⟩
theorem Abx {n:Nat} {f:Nat→Int}:Df (n + 1) f = f 0 + Df n (fun i=>f (i + 1)):=by
  induction n with
  | zero=>simp [Df]
  | succ n ih=>rw [Df,ih]; simp only [Df]; omega
theorem Ajg {n k:Nat} {f:Nat→Int} (h:n ≤ k) (h0:∀ i,n ≤ i→i < k→f i = 0):Df k f = Df n f:=by
  induction k with
  | zero => obtain rfl : n = 0 := by omega
            rfl
  | succ k ih =>
    by_cases e:n = k + 1
    · rw [e]
    · simp only [Df]; rw [ih (by omega) fun i h1 h2=>h0 i h1 (by omega),h0 k (by omega) (by omega)]; omega
theorem Zd {α:Type} {f:α→Int} {F:Nat→Int}:∀ {T:Nat→Bool} {l:List α},(∀ i x,l[i]? = some x→F i = f x)→((Mw T l).map f).sum = Df l.length (fun i=>if T i then F i else 0)
  | _,[],_=>rfl
  | T,a :: l,h=>by
    have ih:=Zd (f:=f) (F:=fun i=>F (i + 1)) (T:=fun i=>T (i + 1)) (l:=l) fun i x hx=>h (i + 1) x (by simpa using hx)
    rw [List.length_cons,Abx,← ih,h 0 a rfl]
    rw [Rm]
    cases T 0 <;> simp
theorem Zc {α:Type} {p:α→Bool} {P:Nat→Bool}:∀ {T:Nat→Bool} {l:List α},(∀ i x,l[i]? = some x→P i = p x)→((Mw T l).any p = true↔∃ i,i < l.length∧T i = true∧P i = true)
  | _,[],_=>by simp [Mw]
  | T,a :: l,h=>by
    have ih:=Zc (p:=p) (P:=fun i=>P (i + 1)) (T:=fun i=>T (i + 1)) (l:=l) fun i x hx=>h (i + 1) x (by simpa using hx)
    have h0:=h 0 a rfl
    rw [Rm,List.any_append,Bool.or_eq_true,ih]
    constructor
    · rintro (h1 | ⟨i,h1,h2,h3⟩)
      · cases hT:T 0 with
        | true=>rw [hT] at h1; exact ⟨0,by simp,hT,by rw [h0]; simpa using h1⟩
        | false=>rw [hT] at h1; simp at h1
      · exact ⟨i + 1,by simpa using h1,h2,h3⟩
    · rintro ⟨i,h1,h2,h3⟩
      cases i with
      | zero=>left; rw [h2,if_pos rfl]; simpa [← h0] using h3
      | succ i=>exact .inr ⟨i,by simpa using h1,h2,h3⟩
def Eo (m:Market) (i:Nat):Int:=match m.sales[i]? with | some s=>s.grams | none=>0
def Gn (s:Sale) (h:Nat):Bool:=s.sellers.any (fun x=>x == (h:Int))
def Ds (m:Market) (i h:Nat):Bool:=match m.sales[i]? with | some s=>Gn s h | none=>false
/-- By how much sales are more than what their sellers can give. -/
def Ue (m:Market) (ss:List Sale):Int:=(ss.map Sale.grams).sum - Df 5 (fun h=>if ss.any (Gn · h) then Em m h else 0)
/-- A house of a set sells there. -/
def Je (set:Nat) (s:Sale):Bool:=(List.range 5).any fun h=>Gn s h && Cu set h
def Fj (m:Market) (set:Nat):Bool:=(subs (m.sales.filter fun s=>!Je set s)).all fun ss=>decide (Ue m ss ≤ 0)
/-- What a house has that may sell false saffron,or not. -/
def Mg (m:Market) (set h:Nat):Int:=if Cu set h then 8000000 else Em m h
theorem Pw {m:Market} (ok:MarketOk m) (h:Int):0 ≤ Em m h:=by
  unfold Em
  have:∀ x ∈ m.fields,0 ≤ Es h x:=fun x hx=>by
    obtain ⟨i,hi⟩:=List.getElem?_of_mem hx
    exact (Xb (ok.field i x hi).2.2.2.1).1
  generalize m.fields = l at this
  induction l with
  | nil=>simp
  | cons a l ih =>
    have:=this a (List.mem_cons_self ..)
    have:=ih fun x hx=>by simp_all
    simp only [List.map_cons,List.sum_cons]; omega
theorem Oz {m:Market} {set:Nat}:Fj m set = true↔∀ ss,ss.Sublist m.sales→(∀ s ∈ ss,Je set s = false)→Ue m ss ≤ 0:=by
  unfold Fj
  simp only [List.all_eq_true,decide_eq_true_eq,Aih]
  constructor
  · intro h ss hs ht
    refine h ss ?_
    have:ss = ss.filter fun s=>!Je set s:=(List.filter_eq_self.2 fun s hs=>by simp [ht s hs]).symm
    rw [this]; exact hs.filter _
  · intro h ss hs
    refine h ss (hs.trans List.filter_sublist) fun s hm=>?_
    have:=hs.subset hm
    simpa using (List.mem_filter.1 this).2
theorem Yo {m:Market} (ok:MarketOk m) (set:Nat):Age (Ds m) (Mg m set) (Eo m)↔Fj m set = true:=by
  have hgr:∀ i x,m.sales[i]? = some x→Eo m i = x.grams:=fun i x hx=>by simp [Eo,hx]
  have hsl:∀ h i x,m.sales[i]? = some x→Ds m i h = Gn x h:=fun h i x hx=>by simp [Ds,hx]
  have hn8:=ok.nsales
  have hlen:∀ (T:Nat→Bool),Df 8 (fun s=>if T s then Eo m s else 0) = ((Mw T m.sales).map Sale.grams).sum:=fun T=>by
    rw [Zd (F:=Eo m) fun i x hx=>hgr i x hx]
    exact Ajg hn8 fun i h1 _=>by
      have:Eo m i = 0:=by unfold Eo; rw [List.getElem?_eq_none h1]
      rw [this]; simp
  have hnb:∀ (T:Nat→Bool) h,nbr (Ds m) T h = (Mw T m.sales).any (Gn · h):=fun T h=>by
    rw [Bool.eq_iff_iff,Zc (P:=fun i=>Ds m i h) fun i x hx=>hsl h i x hx,Adg]
    constructor
    · rintro ⟨s,_,h2,h3⟩
      refine ⟨s,?_,h2,h3⟩
      rcases Nat.lt_or_ge s m.sales.length with hlt | hge
      · exact hlt
      · unfold Ds at h3; rw [List.getElem?_eq_none hge] at h3; cases h3
    · rintro ⟨s,h1,h2,h3⟩; exact ⟨s,by omega,h2,h3⟩
  constructor
  · intro hall
    rw [Oz]
    intro ss hs ht
    obtain ⟨T,rfl⟩:=Aje hs
    have h1:=hall T
    rw [hlen T] at h1
    have e1:Df 5 (fun h=>if nbr (Ds m) T h then Mg m set h else 0) = Df 5 (fun h=>if (Mw T m.sales).any (Gn · h) then Em m h else 0):=Et fun h hh=>by
      rw [hnb T h]
      split
      · rename_i ha
        obtain ⟨s,hs,hsl⟩:=List.any_eq_true.1 ha
        have h2:=ht s hs
        unfold Mg
        rw [if_neg]
        intro hb
        unfold Je at h2
        rw [List.any_eq_false] at h2
        exact h2 h (List.mem_range.2 hh) (by simp [hsl,hb])
      · rfl
    rw [e1] at h1
    unfold Ue; omega
  · intro hen T
    rw [Oz] at hen
    rw [hlen T]
    have hsub:(Mw T m.sales).Sublist m.sales:=selI_sub
    by_cases ht:∀ s ∈ Mw T m.sales,Je set s = false
    · have h1:=hen _ hsub ht
      have e1:Df 5 (fun h=>if nbr (Ds m) T h then Mg m set h else 0) = Df 5 (fun h=>if (Mw T m.sales).any (Gn · h) then Em m h else 0):=Et fun h hh=>by
        rw [hnb T h]
        split
        · rename_i ha
          obtain ⟨s,hs,hsl⟩:=List.any_eq_true.1 ha
          have h2:=ht s hs
          unfold Mg
          rw [if_neg]
          intro hb
          unfold Je at h2
          rw [List.any_eq_false] at h2
          exact h2 h (List.mem_range.2 hh) (by simp [hsl,hb])
        · rfl
      rw [e1]
      unfold Ue at h1; omega
    · have ⟨s,hs,hts⟩:∃ s,s ∈ Mw T m.sales∧Je set s = true:=by
        apply Classical.byContradiction
        intro hno
        exact ht fun s hs=>by
          cases h:Je set s with
          | false=>rfl
          | true=>exact absurd ⟨s,hs,h⟩ hno
      unfold Je at hts
      obtain ⟨h,hh,hb⟩:=List.any_eq_true.1 hts
      rw [Bool.and_eq_true] at hb
      have hh':=List.mem_range.1 hh
      have h1:((Mw T m.sales).map Sale.grams).sum ≤ 8000000:=by
        rw [← hlen T]
        have:Df 8 (fun s=>if T s then Eo m s else 0) ≤ Df 8 (fun _=>1000000):=Oe fun i hi=>by
          have:Eo m i ≤ 1000000:=by
            unfold Eo
            cases hx:m.sales[i]? with
            | none=>simp
            | some x=>exact (ok.sale i x hx).1.2
          split <;> omega
        have e2:Df 8 (fun _=>(1000000:Int)) = 8000000:=by decide
        omega
      have h2:Df 5 (fun k=>if k = h then 8000000 else 0) ≤ Df 5 (fun h=>if nbr (Ds m) T h then Mg m set h else 0):=Oe fun k hk=>by
        have hcap:0 ≤ Mg m set k:=by
          unfold Mg; split
          · omega
          · exact Pw ok _
        split
        · rename_i e; subst e
          rw [hnb T k,if_pos (List.any_eq_true.2 ⟨s,hs,hb.1⟩)]
          unfold Mg; rw [if_pos hb.2]; exact Int.le_refl _
        · split
          · exact hcap
          · exact Int.le_refl _
      have h3:(8000000:Int) ≤ Df 5 (fun k=>if k = h then 8000000 else 0):=by
        rcases (by omega:h = 0∨h = 1∨h = 2∨h = 3∨h = 4) with rfl | rfl | rfl | rfl | rfl <;> decide
      omega
end Go.Proofs.YtphgjjmlnkgghaaGreatDoor

namespace Go.Proofs.YtphgjjmlnkgghaaGreatDoor
open Go
def Ix (m:Market) (l:List Nat):List Sale:=l.filterMap (m.sales[·]?)
def Bq (m:Market) (l:List Nat):Int:=Ue m (Ix m l)
/-- Shorter lists come first,and of two lists of one length the one that is less. -/
def Cr (a b:List Nat):Prop:=a.length < b.length∨(a.length = b.length∧a < b)
instance (a b:List Nat):Decidable (Cr a b):=inferInstanceAs (Decidable (_∨_))
theorem Vg (a:List Nat):¬ Cr a a:=by
  rintro (h | ⟨_,h⟩)
  · omega
  · exact List.lt_irrefl a h
theorem Xl {a b c:List Nat} (h:Cr a b) (h':Cr b c):Cr a c:=by
  rcases h with h | ⟨h1,h2⟩ <;> rcases h' with h' | ⟨h3,h4⟩
  · exact .inl (by omega)
  · exact .inl (by omega)
  · exact .inl (by omega)
  · exact .inr ⟨by omega,List.lt_trans h2 h4⟩
/-- a is better than b,by what f says and then by their order. -/
def Bu (f:List Nat→Int) (a b:List Nat):Prop:=f b < f a∨(f a = f b∧Cr a b)
instance (f:List Nat→Int) (a b:List Nat):Decidable (Bu f a b):=inferInstanceAs (Decidable (_∨_))
theorem Ww {f:List Nat→Int} {a b c:List Nat} (h:Bu f a b) (h':Bu f b c):Bu f a c:=by
  rcases h with h | ⟨h1,h2⟩ <;> rcases h' with h' | ⟨h3,h4⟩
  · exact .inl (by omega)
  · exact .inl (by omega)
  · exact .inl (by omega)
  · exact .inr ⟨by omega,Xl h2 h4⟩
theorem Vb {f:List Nat→Int} (a:List Nat):¬ Bu f a a:=by
  rintro (h | ⟨_,h⟩)
  · omega
  · exact Vg a h
/-- The best of some lists. -/
def IsBest (f:List Nat→Int) (L:List Nat→Prop) (r:List Nat):Prop:=L r∧∀ x,L x→x = r∨Bu f r x
theorem IsBest.uniq {f:List Nat→Int} {L:List Nat→Prop} {r r':List Nat} (h:IsBest f L r) (h':IsBest f L r'):r = r':=by
  rcases h.2 r' h'.1 with e | e
  · exact e.symm
  · rcases h'.2 r h.1 with e' | e'
    · exact e'
    · exact absurd (Ww e e') (Vb r)
/-- One way: whatever is better is taken. -/
def Sz (f:List Nat→Int) (xs:List (List Nat)) (r:List Nat):List Nat:=xs.foldl (fun b x=>if Bu f x b then x else b) r
theorem Aau {f:List Nat→Int} {xs:List (List Nat)} {r y:List Nat}:Sz f (xs ++ [y]) r = if Bu f y (Sz f xs r) then y else Sz f xs r:=by
  unfold Sz; rw [List.foldl_append]; rfl
/-- Whose sales a set has. -/
theorem Pz (set i:Nat):Gw set i = set.testBit i:=by
  unfold Gw Nat.testBit
  rw [Nat.and_comm]
  rcases Nat.mod_two_eq_zero_or_one (set >>> i) with h | h <;> simp [Nat.one_and_eq_mod_two,h]
def Zg (n:Nat):List (List Nat):=(List.range (2 ^ n)).map fun s=>(List.range n).filter (Gw s)
def Acr (m:Market):List Nat:=Sz (Bq m) (Zg m.sales.length) []
end Go.Proofs.YtphgjjmlnkgghaaGreatDoor

namespace Go.Proofs.YtphgjjmlnkgghaaGreatDoor
open Go
theorem Agm {l:List Int} {i:Nat} {x:Int} (h:l[i]? = some x):l.take (i + 1) = l.take i ++ [x]:=by
  rw [List.take_add_one,h]; rfl
theorem Vv {m:Market} {l:List Nat} {i a:Nat} {s:Sale} (h:l[i]? = some a) (hs:m.sales[a]? = some s):Ix m (l.take (i + 1)) = Ix m (l.take i) ++ [s]:=by
  unfold Ix
  rw [List.take_add_one,h,List.filterMap_append]; simp [hs]
theorem Afa {ss:List Sale} {s:Sale}:((ss ++ [s]).map Sale.grams).sum = (ss.map Sale.grams).sum + s.grams:=by simp
theorem Tp {m:Market} (ok:MarketOk m) (h:Int):0 ≤ Em m h∧Em m h ≤ 6000000:=by
  refine ⟨Pw ok h,?_⟩
  unfold Em
  have hn:=ok.nfields
  have:∀ x ∈ m.fields,Es h x ≤ 1000000:=fun x hx=>by
    obtain ⟨i,hi⟩:=List.getElem?_of_mem hx
    exact (Xb (ok.field i x hi).2.2.2.1).2
  have key:∀ l:List FField,(∀ x ∈ l,Es h x ≤ 1000000)→(l.map (Es h)).sum ≤ 1000000 * (l.length:Int):=by
    intro l
    induction l with
    | nil=>simp
    | cons a l ih =>
      intro hl
      have:=hl a (List.mem_cons_self ..)
      have:=ih fun x hx=>hl x (List.mem_cons_of_mem _ hx)
      simp only [List.map_cons,List.sum_cons,List.length_cons]; push_cast; omega
  have:=key m.fields this
  omega
theorem Hn {m:Market} (ok:MarketOk m):m.houses.length ≤ 5:=by have:=Ua ok.houses; omega
def To (m:Market) (ss:List Sale) (h:Nat):Int:=if ss.any (Gn · h) then Em m h else 0
theorem Tw {α β:Type} {f:α→β} {l:List α} {k:Nat} {a:α} (h:l[k]? = some a):(l.take (k + 1)).map f = (l.take k).map f ++ [f a]:=by
  rw [List.take_add_one,h,List.map_append]; rfl
theorem Ri {m:Market} (ok:MarketOk m):Bq m [] = 0:=by
  unfold Bq Ue Ix; simp; decide
def Ahr (m:Market):Int:=if Cf m = 0 then Bq m (Acr m) else 0
def Ahs (m:Market):List Int:=if Cf m = 0 then Bw (Acr m) else []
end Go.Proofs.YtphgjjmlnkgghaaGreatDoor

namespace Go.Proofs.YtphgjjmlnkgghaaGreatDoor
open Go
/-- The reference's way to ask whether a set is enough. -/
def rest (m:Market) (set:Nat):Market:=⟨m.houses,m.marks,m.fields,m.sales.filter fun s=>!Je set s⟩
theorem Ajm {m:Market} (ok:MarketOk m) {s:Sale} {i:Nat} (hs:m.sales[i]? = some s) (set:Nat):s.sellers.any (fun x=>Cu set x.toNat) = Je set s:=by
  have hh:=Hn ok
  have hsl:=(ok.sale i s hs).2.2.1
  rw [Bool.eq_iff_iff]
  unfold Je Gn
  simp only [List.any_eq_true,List.mem_range,Bool.and_eq_true,beq_iff_eq]
  constructor
  · rintro ⟨x,hx,hb⟩
    obtain ⟨k,hk⟩:=List.getElem?_of_mem hx
    have:=hsl k x hk
    exact ⟨x.toNat,by omega,⟨x,hx,by omega⟩,hb⟩
  · rintro ⟨h,hlt,⟨x,hx,rfl⟩,hb⟩
    exact ⟨_,hx,by simpa using hb⟩
theorem Arr {s i:Nat}:((((s >>> i) % 2:Nat):Int) == 1) = Cu s i:=by
  cases h:((((s >>> i) % 2:Nat):Int) == 1) with
  | true=>exact (Apn h).symm
  | false=>exact (Apm h).symm
def Ani (m:Market) (n i:Nat):List Nat:=(List.range i).filter fun s=>(De s == n) && Fj m s
def lv (m:Market) (n:Nat):List Nat:=Ani m n (1 <<< m.houses.length)
def Abc (m:Market):Nat:=(Cl (m.houses.length + 1) fun n=>!(lv m n).isEmpty).getD 0
def App (m:Market):List Int:=(List.range m.houses.length).map (Po (lv m (Abc m)))
def Akw (m:Market):Int:=if Cf m = 0 then (Abc m:Int) else 0
def Akx (m:Market):List Int:=if Cf m = 0 then App m else []
theorem Ym {m:Market} (ok:MarketOk m):Fj m ((1 <<< m.houses.length) - 1) = true:=by
  rw [Oz]
  intro ss hs ht
  cases ss with
  | nil=>have e:=Ri ok; unfold Bq Ix at e; simp only [List.filterMap_nil] at e; omega
  | cons s ss =>
    exfalso
    have hm:s ∈ m.sales:=hs.subset (List.mem_cons_self ..)
    obtain ⟨i,hi⟩:=List.getElem?_of_mem hm
    have h1:=ht s (List.mem_cons_self ..)
    rw [← Ajm ok hi] at h1
    obtain ⟨h2,h3,h4,_⟩:=ok.sale i s hi
    cases hse:s.sellers with
    | nil=>exact h3 hse
    | cons x xs =>
      rw [hse,List.any_eq_false] at h1
      have h5:=h4 0 x (by rw [hse]; rfl)
      refine h1 x (List.mem_cons_self ..) ?_
      have h6:=Hn ok
      rw [Ez,Nat.one_shiftLeft,Nat.testBit_two_pow_sub_one]
      exact decide_eq_true (by omega)
theorem Air:∀ n,n ≤ 5→De ((1 <<< n) - 1) = n:=by decide
theorem Ali {m:Market} (ok:MarketOk m):∃ n,n < m.houses.length + 1∧(!(lv m n).isEmpty) = true:=by
  refine ⟨m.houses.length,by omega,?_⟩
  have:((1 <<< m.houses.length) - 1) ∈ lv m m.houses.length:=by
    unfold lv Ani
    rw [List.mem_filter,List.mem_range]
    have h1:1 ≤ 1 <<< m.houses.length:=by rw [Nat.one_shiftLeft]; exact Nat.one_le_two_pow
    refine ⟨by omega,?_⟩
    rw [Air _ (Hn ok),Ym ok]; simp
  cases h:lv m m.houses.length with
  | nil=>rw [h] at this; cases this
  | cons a l=>rfl
theorem Ane {m:Market} {n:Nat} (hn:n < m.houses.length + 1) (h0:∀ j,j < n→(lv m j).length = 0) (h1:(lv m n).length ≠ 0):Abc m = n:=by
  unfold Abc
  rw [Fh (i:=n) (fun j hj=>by rw [List.isEmpty_iff_length_eq_zero.2 (h0 j hj)]; rfl) hn (by
    cases h:lv m n with
    | nil=>rw [h] at h1; exact absurd rfl h1
    | cons a l=>rfl)]
  rfl
theorem Ahi {l:List Nat} {k:Nat}:Iz l k ≤ l.length:=by
  unfold Iz
  induction l with
  | nil=>simp
  | cons a l ih=>simp only [List.map_cons,List.sum_cons,List.length_cons]; have:=Nat.mod_lt (a >>> k) (show 0 < 2 by omega); omega
theorem Alu {n:Nat} (h:n ≤ 5):1 ≤ 1 <<< n∧1 <<< n ≤ 32:=by
  rcases (by omega:n = 0∨n = 1∨n = 2∨n = 3∨n = 4∨n = 5) with rfl | rfl | rfl | rfl | rfl | rfl <;> decide
end Go.Proofs.YtphgjjmlnkgghaaGreatDoor

namespace Go.Proofs.YtphgjjmlnkgghaaGreatDoor
open Go
def Abj:Option Nat→Option Nat→Option Nat
  | none,b=>b
  | some a,none=>some a
  | some a,some b=>some (min a b)
def Alj:Option Nat→Option Nat→Option Nat
  | some a,some b=>some (1 + max a b)
  | _,_=>none
def Mv (n:Nat) (g:Nat→Option Nat):Option Nat:=(List.range n).foldl (fun b t=>Abj b (g t)) none
theorem Hx {n:Nat} {g:Nat→Option Nat}:Mv (n + 1) g = Abj (Mv n g) (g n):=by
  unfold Mv; rw [List.range_succ,List.foldl_append]; rfl
theorem Rh {a:Option Nat}:Abj a none = a:=by cases a <;> rfl
theorem Xx {n:Nat} {g g':Nat→Option Nat} (h:∀ t,t < n→g t = g' t):Mv n g = Mv n g':=by
  induction n with
  | zero=>rfl
  | succ n ih=>rw [Hx,Hx,ih fun t ht=>h t (by omega),h n (by omega)]
theorem Aav {n:Nat} {g:Nat→Option Nat} (h:∀ t,t < n→g t = none):Mv n g = none:=by
  induction n with
  | zero=>rfl
  | succ n ih=>rw [Hx,ih fun t ht=>h t (by omega),h n (by omega)]; rfl
theorem Ow {n d:Nat} {g:Nat→Option Nat} (h:Mv n g = some d):∃ t,t < n∧g t = some d:=by
  induction n generalizing d with
  | zero=>cases h
  | succ n ih =>
    rw [Hx] at h
    cases hb:Mv n g with
    | none =>
      rw [hb] at h
      exact ⟨n,by omega,h⟩
    | some a =>
      rw [hb] at h
      cases hg:g n with
      | none=>rw [hg] at h; obtain ⟨t,h1,h2⟩:=ih (d:=d) (by rw [hb]; exact h); exact ⟨t,by omega,h2⟩
      | some b =>
        rw [hg] at h
        simp only [Abj,Option.some.injEq] at h
        rcases Nat.le_total a b with hab | hab
        · rw [Nat.min_eq_left hab] at h; subst h; obtain ⟨t,h1,h2⟩:=ih hb; exact ⟨t,by omega,h2⟩
        · rw [Nat.min_eq_right hab] at h; subst h; exact ⟨n,by omega,hg⟩
def fT (t:Nat) (b:Bool):Found:=⟨(t:Int),b⟩
/-- The least depth of a tree that settles it,with so much fuel. -/
def Ahj (l:Lab):Nat→List Nat→Nat→Option Nat
  | 0,sets,_=>if Ea (Bw sets) then some 0 else none
  | f + 1,sets,left=>if Ea (Bw sets) then some 0 else
      Mv l.tests.length fun t=>if Cu left t then Alj (Ahj l f (Au l sets (fT t true)) (left - 1 <<< t)) (Ahj l f (Au l sets (fT t false)) (left - 1 <<< t)) else none
def dep (l:Lab) (sets:List Nat) (left:Nat):Option Nat:=Ahj l (De left) sets left
def Gv (l:Lab) (sets:List Nat) (left t:Nat):Option Nat:=Alj (dep l (Au l sets (fT t true)) (left - 1 <<< t)) (dep l (Au l sets (fT t false)) (left - 1 <<< t))
theorem Yy:(List.range 32).all (fun s=>(List.range 8).all fun t=>!Cu s t || (decide (1 <<< t ≤ s) && (De s == De (s - 1 <<< t) + 1))) = true:=by decide +kernel
theorem Ny {s t:Nat} (hs:s < 32) (h:Cu s t = true):t < 5:=by
  rcases Nat.lt_or_ge t 5 with hlt | hge
  · exact hlt
  · rw [Ez,Nat.testBit_lt_two_pow (Nat.lt_of_lt_of_le hs (by show 2 ^ 5 ≤ 2 ^ t; exact Nat.pow_le_pow_right (by omega) hge))] at h; cases h
theorem Oc {s t:Nat} (hs:s < 32) (h:Cu s t = true):1 <<< t ≤ s∧De s = De (s - 1 <<< t) + 1:=by
  have h5:=Ny hs h
  have h1:=List.all_eq_true.1 (List.all_eq_true.1 Yy s (by simpa using hs)) t (by simp; omega)
  rw [h] at h1
  simpa using h1
theorem Ais {s:Nat} (hs:s < 32) (h:De s = 0):s = 0:=by
  have key:(List.range 32).all (fun s=>!(De s == 0) || s == 0) = true:=by decide +kernel
  have:=List.all_eq_true.1 key s (by simpa using hs)
  simpa [h] using this
theorem Lg {s:Nat} (hs:s < 32):De s ≤ 5:=by
  have key:(List.range 32).all (fun s=>decide (De s ≤ 5)) = true:=by decide +kernel
  have:=List.all_eq_true.1 key s (by simpa using hs)
  simpa using this
theorem Tk {l:Lab} {sets:List Nat} {left:Nat} (hl:left < 32):dep l sets left = if Ea (Bw sets) then some 0 else Mv l.tests.length fun t=>if Cu left t then Gv l sets left t else none:=by
  unfold dep
  cases hp:De left with
  | zero =>
    have h0:=Ais hl hp
    subst h0
    unfold Ahj
    split
    · rfl
    · rw [Aav]
      intro t _
      rw [if_neg (by simp [Cu])]
  | succ f =>
    unfold Ahj
    split
    · rfl
    · refine Xx fun t _=>?_
      by_cases hb:Cu left t = true
      · rw [if_pos hb,if_pos hb]
        have h2:=(Oc hl hb).2
        have h3:f = De (left - 1 <<< t):=by omega
        unfold Gv dep
        rw [h3]
      · rw [if_neg hb,if_neg hb]
theorem Nc {l:Lab} {left:Nat} (hl:left < 32):∀ {sets:List Nat} {d:Nat},dep l sets left = some d→d ≤ De left:=by
  induction left using Nat.strongRecOn with
  | _ left ih =>
    intro sets d h
    rw [Tk hl] at h
    split at h
    · injection h with h; omega
    · obtain ⟨t,_,h2⟩:=Ow h
      split at h2
      · rename_i hb
        obtain ⟨h3,h4⟩:=Oc hl hb
        have hlt:left - 1 <<< t < left:=by
          have:1 ≤ 1 <<< t:=by rw [Nat.one_shiftLeft]; exact Nat.one_le_two_pow
          omega
        unfold Gv at h2
        cases ha:dep l (Au l sets (fT t true)) (left - 1 <<< t) with
        | none=>rw [ha] at h2; cases h2
        | some a =>
          cases hb':dep l (Au l sets (fT t false)) (left - 1 <<< t) with
          | none=>rw [ha,hb'] at h2; cases h2
          | some b =>
            rw [ha,hb'] at h2
            have h5:=ih _ hlt (by omega) ha
            have h6:=ih _ hlt (by omega) hb'
            simp only [Alj,Option.some.injEq] at h2
            omega
      · cases h2
def Jt:Option Nat→Int
  | some d=>(d:Int)
  | none=>-1
theorem Ahm {a:Nat}:Jt (some a) = (a:Int):=rfl
theorem Ahl:Jt none = -1:=rfl
theorem Aan {l:Lab} {sets:List Nat} {r:Found} (h:sets.Sublist (List.range 16)):(Au l sets r).Sublist (List.range 16):=List.filter_sublist.trans h
theorem Abw {sets:List Nat} (h:sets.Sublist (List.range 16)):(∀ a ∈ sets,a < 16)∧sets.length ≤ 16 :=
  ⟨fun a ha=>List.mem_range.1 (h.subset ha),by have:=h.length_le; simpa using this⟩
theorem Rz {l:Lab} (ok:LabOk l) {rs:List Found}:(Ba l rs).Sublist (List.range 16):=by
  have h1:(Ba l rs).Sublist (Hr l):=Qu rs _
  have h2:(Hr l).Sublist (List.range (1 <<< l.kinds.length)):=List.filter_sublist
  have h4:=(Rn ok.n4).2
  refine (h1.trans h2).trans ?_
  rw [show 16 = 1 <<< l.kinds.length + (16 - 1 <<< l.kinds.length) by omega,List.range_add]
  exact List.sublist_append_left ..
/-- Whether a test is the one that a tree begins with. -/
def Gp (l:Lab) (sets:List Nat) (left t:Nat):Bool:=Cu left t && (Jt (Gv l sets left t) == Jt (dep l sets left))
def Dm (l:Lab) (sets:List Nat) (left:Nat):Nat:=(Cl l.tests.length (Gp l sets left)).getD 0
/-- The nodes behind a list of nodes,and the first one's index. -/
def Ib (l:Lab):Nat→List FNode→List Nat→Nat→List FNode × Int
  | 0,tree,_,_=>(tree,-1)
  | f + 1,tree,sets,left=>if Ea (Bw sets) then (tree,-1) else
      let t:=Dm l sets left
      let a:=Ib l f (tree ++ [⟨(t:Int),0,0⟩]) (Au l sets (fT t true)) (left - 1 <<< t)
      let b:=Ib l f a.1 (Au l sets (fT t false)) (left - 1 <<< t)
      (b.1.set tree.length ⟨(t:Int),a.2,b.2⟩,(tree.length:Int))
def Bp (l:Lab) (tree:List FNode) (sets:List Nat) (left:Nat):List FNode × Int:=Ib l (De left + 1) tree sets left
theorem Adp {l:Lab} {sets:List Nat} {left d:Nat} (hl:left < 32) (hd:dep l sets left = some d) (hs:Ea (Bw sets) = false) :
    Dm l sets left < l.tests.length∧Cu left (Dm l sets left) = true∧Gv l sets left (Dm l sets left) = some d∧∀ j,j < Dm l sets left→Gp l sets left j = false:=by
  have h1:=Tk (l:=l) (sets:=sets) hl
  rw [hs,if_neg (by simp),hd] at h1
  obtain ⟨t,ht,h2⟩:=Ow h1.symm
  split at h2
  · rename_i hb
    have hok:Gp l sets left t = true:=by unfold Gp; rw [hb,h2,hd]; simp
    unfold Dm
    rcases Ft (n:=l.tests.length) (p:=Gp l sets left) with ⟨i,hi,hp,hlt,he⟩ | ⟨hn,_⟩
    · rw [he,Option.getD_some]
      have hp':=hp
      unfold Gp at hp'
      rw [Bool.and_eq_true,beq_iff_eq,hd] at hp'
      refine ⟨hi,hp'.1,?_,hlt⟩
      cases hw:Gv l sets left i with
      | none=>rw [hw] at hp'; have:=hp'.2; simp only [Jt] at this; omega
      | some e=>rw [hw] at hp'; have:=hp'.2; simp only [Jt] at this; congr 1; omega
    · rw [hn t ht] at hok; cases hok
  · cases h2
theorem Wm {l:Lab} {sets:List Nat} {left t d:Nat} (h:Gv l sets left t = some d):∃ a b,dep l (Au l sets (fT t true)) (left - 1 <<< t) = some a∧dep l (Au l sets (fT t false)) (left - 1 <<< t) = some b∧d = 1 + max a b:=by
  unfold Gv at h
  cases ha:dep l (Au l sets (fT t true)) (left - 1 <<< t) with
  | none=>rw [ha] at h; cases h
  | some a =>
    cases hb:dep l (Au l sets (fT t false)) (left - 1 <<< t) with
    | none=>rw [ha,hb] at h; cases h
    | some b=>rw [ha,hb] at h; simp only [Alj,Option.some.injEq] at h; exact ⟨a,b,rfl,rfl,h.symm⟩
theorem Om {l:Lab} {tree:List FNode} {sets:List Nat} {left:Nat} (h:Ea (Bw sets) = true):Bp l tree sets left = (tree,-1):=by
  unfold Bp Ib; rw [if_pos h]
theorem Ic {l:Lab} {tree:List FNode} {sets:List Nat} {left d:Nat} (hl:left < 32) (hd:dep l sets left = some d) (hs:Ea (Bw sets) = false) :
    Bp l tree sets left =
      let t:=Dm l sets left
      let a:=Bp l (tree ++ [⟨(t:Int),0,0⟩]) (Au l sets (fT t true)) (left - 1 <<< t)
      let b:=Bp l a.1 (Au l sets (fT t false)) (left - 1 <<< t)
      (b.1.set tree.length ⟨(t:Int),a.2,b.2⟩,(tree.length:Int)):=by
  obtain ⟨_,hb,_,_⟩:=Adp hl hd hs
  obtain ⟨_,h2⟩:=Oc hl hb
  unfold Bp
  rw [h2]
  conv=>lhs; unfold Ib
  rw [hs,if_neg (by simp)]
theorem Ob {l:Lab}:∀ (f:Nat) (tree:List FNode) (sets:List Nat) (left:Nat),tree.length ≤ (Ib l f tree sets left).1.length∧(Ib l f tree sets left).1.length + 1 ≤ tree.length + 2 ^ f
  | 0,tree,sets,left=>by simp [Ib]
  | f + 1,tree,sets,left=>by
    unfold Ib
    split
    · have:1 ≤ 2 ^ (f + 1):=Nat.one_le_two_pow
      simp only; omega
    · simp only [List.length_set]
      have h1:=Ob (l:=l) f (tree ++ [⟨(Dm l sets left:Int),0,0⟩]) (Au l sets (fT (Dm l sets left) true)) (left - 1 <<< Dm l sets left)
      have h2:=Ob (l:=l) f (Ib l f (tree ++ [⟨(Dm l sets left:Int),0,0⟩]) (Au l sets (fT (Dm l sets left) true)) (left - 1 <<< Dm l sets left)).1 (Au l sets (fT (Dm l sets left) false)) (left - 1 <<< Dm l sets left)
      simp only [List.length_append,List.length_singleton] at h1
      rw [Nat.pow_succ]
      omega
theorem Ia {l:Lab} {tree:List FNode} {sets:List Nat} {left:Nat}:tree.length ≤ (Bp l tree sets left).1.length∧(Bp l tree sets left).1.length + 1 ≤ tree.length + 2 ^ (De left + 1):=Ob _ _ _ _
theorem Pe {l:Lab} {tree:List FNode} {sets:List Nat} {left:Nat}:(Bp l tree sets left).2 = -1∨(Bp l tree sets left).2 = (tree.length:Int):=by
  unfold Bp Ib
  split
  · exact .inl rfl
  · exact .inr rfl
theorem Wh {l:Lab} {sets:List Nat} {left t:Nat} (h:Cu left t = false):Gp l sets left t = false:=by unfold Gp; rw [h]; rfl
theorem Wi {l:Lab} {sets:List Nat} {left t:Nat} (h:(Jt (Gv l sets left t) != Jt (dep l sets left)) = true):Gp l sets left t = false:=by
  unfold Gp
  have:(Jt (Gv l sets left t) == Jt (dep l sets left)) = false:=by
    have h2:(!(Jt (Gv l sets left t) == Jt (dep l sets left))) = true:=h
    simpa using h2
  rw [this,Bool.and_false]
theorem Ajl {l:Lab} {sets:List Nat} {left t:Nat} (hb:Cu left t = true) (h:(Jt (Gv l sets left t) != Jt (dep l sets left)) = false):Gp l sets left t = true:=by
  unfold Gp
  have:(Jt (Gv l sets left t) == Jt (dep l sets left)) = true:=by
    have h2:(!(Jt (Gv l sets left t) == Jt (dep l sets left))) = false:=h
    simpa using h2
  rw [hb,this]; rfl
theorem Aly {l:Lab} {sets:List Nat} {left t:Nat} (hle:t ≤ Dm l sets left) (hlt:∀ j,j < Dm l sets left→Gp l sets left j = false) (h:Gp l sets left t = true):t = Dm l sets left:=by
  rcases Nat.lt_or_ge t (Dm l sets left) with h' | h'
  · rw [hlt t h'] at h; cases h
  · omega
theorem Of {l:Lab} {sets:List Nat} {left t d:Nat} (hl:Cu left (Dm l sets left) = true) (hw:Gv l sets left (Dm l sets left) = some d) (hd:dep l sets left = some d) (hle:t ≤ Dm l sets left) (h:Gp l sets left t = false):t + 1 ≤ Dm l sets left:=by
  rcases Nat.lt_or_ge t (Dm l sets left) with h' | h'
  · exact h'
  · exfalso
    have e:t = Dm l sets left:=by omega
    rw [e] at h
    unfold Gp at h
    rw [hl,hw,hd] at h
    simp at h
def Zs (l:Lab) (rs:List Found):List FNode:=if Cw l rs = 0 then (match dep l (Ba l rs) (1 <<< l.tests.length - 1) with | some _=>(Bp l [] (Ba l rs) (1 <<< l.tests.length - 1)).1 | none=>[]) else []
def Zr (l:Lab) (rs:List Found):Int:=if Cw l rs = 0 then (match dep l (Ba l rs) (1 <<< l.tests.length - 1) with | some d=>(d:Int) | none=>0) else 0
def Zq (l:Lab) (rs:List Found):Bool:=if Cw l rs = 0 then (dep l (Ba l rs) (1 <<< l.tests.length - 1)).isSome else false
theorem Alq {α:Type} [DecidableEq α] {a b:List α} (h:a.length = b.length) (h':∀ j,j < a.length→a[j]? = b[j]?):(a == b) = true:=by
  rw [beq_iff_eq]
  apply List.ext_getElem?
  intro i
  rcases Nat.lt_or_ge i a.length with hlt | hge
  · exact h' i hlt
  · rw [List.getElem?_eq_none hge,List.getElem?_eq_none (by omega)]
end Go.Proofs.YtphgjjmlnkgghaaGreatDoor

namespace Go.Proofs.YtphgjjmlnkgghaaGreatDoor
open Go
section
variable {C:Ctx} {e:Env} {ds:List Deferred} {ρ:Ro} {σ:Own} {K:Value→List Deferred→Ro→Own→Prop} {rd:Option Nat} {dd:Option Tmp}
variable {ty:TypeId} {pos:String} {af:Array Edge} {g:Option (Nat × Bool)} {x y u:Operand} {v p:Value} {t t':TypeId} {P:Program}
/-- The fields are numbers,one cell each: these here,and those there. -/
def EqF (P:Program) (xs ys:Array Value):List Field→List Int→List Int→Prop
  | [],[],[]=>True
  | f :: fs,p :: ps,q :: qs=>((f.name ≠ "_")∧∃ k,P.underlying f.type = some (.int k)∧xs[f.offset]? = some (.int k p)∧ys[f.offset]? = some (.int k q))∧EqF P xs ys fs ps qs
  | _,_,_=>False
theorem Qr {cs:Array Value} {off:Nat} {Q:Value→Own→Prop} (hT:∃ d,P.underlying t = some d∧Qv d = false) (hc:cs[off]? = some v) (h:Q v σ):wpS P ρ (part t cs off) σ Q:=by
  show wpS P ρ ((isAgg t).bind _) σ Q
  rw [Ad]
  refine Hi hT ?_
  simp only [hc]
  exact h
theorem Afv {k:IntKind} {a b:Int} {d:Nat} {Q:Bool→Own→Prop} (hT:P.underlying t = some (.int k)) (h:Q (a == b) σ):wpS P ρ (Op.equalIn (d + 1) t (.int k a) (.int k b)) σ Q:=by
  show wpS P ρ ((underlying t).bind _) σ Q
  rw [Ad]
  refine Az hT ?_
  simp only [if_true]
  exact h
theorem Uv {xs ys:Array Value} {d:Nat} {K:(Option Bool × Unit)→Own→Prop}:∀ (fs:List Field) (ps qs:List Int),EqF P xs ys fs ps qs→K (if ps = qs then none else some false,()) σ →
    wpS P ρ (forIn fs ((none, ()) : Option Bool × Unit) fun (f : Field) (__s : Option Bool × Unit) =>
            if f.name ≠ "_" then do
              let __do_lift ← part f.type xs f.offset
              let __do_lift_1 ← part f.type ys f.offset
              let __do_lift ← Op.equalIn (d + 1) f.type __do_lift __do_lift_1
              if (!__do_lift) = true then pure (ForInStep.done (some false,())) else pure (ForInStep.yield (none,()))
            else pure (ForInStep.yield (none,()))) σ K
  | [],[],[],_,h=>h
  | f :: fs,p :: ps,q :: qs,⟨⟨hn,k,hT,hx,hy⟩,hr⟩,h=>by
    rw [List.forIn_cons]
    show wpS P ρ (Sem.bind _ _) σ K
    rw [Ad,if_pos hn]
    show wpS P ρ ((part f.type xs f.offset).bind _) σ _
    rw [Ad]
    refine Qr ⟨_,hT,rfl⟩ hx ?_
    show wpS P ρ ((part f.type ys f.offset).bind _) σ _
    rw [Ad]
    refine Qr ⟨_,hT,rfl⟩ hy ?_
    show wpS P ρ ((Op.equalIn (d + 1) f.type (.int k p) (.int k q)).bind _) σ _
    rw [Ad]
    refine Afv hT ?_
    cases hpq:(p == q) with
    | false =>
      have hne:¬ (p :: ps = q :: qs):=fun h=>by injection h with h1; subst h1; simp at hpq
      rw [if_neg hne] at h
      exact h
    | true =>
      have he:p = q:=eq_of_beq hpq
      refine Uv fs ps qs hr ?_
      have:(p :: ps = q :: qs)↔ps = qs:=by subst he; simp
      simp only [this] at h
      exact h
  | [],[],_ :: _,h,_=>h.elim
  | [],_ :: _,_,h,_=>h.elim
  | _ :: _,[],_,h,_=>h.elim
  | _ :: _,_ :: _,[],h,_=>h.elim
theorem Ms {fs:List Field} {xs ys:Array Value} {ps qs:List Int} {d:Nat} {Q:Bool→Own→Prop} (hT:P.underlying t = some (.struct fs.toArray)) (hs:P.stoodInHeld t = false) (hf:EqF P xs ys fs ps qs) (h:Q (decide (ps = qs)) σ) :
    wpS P ρ (Op.equalIn (d + 2) t (.agg xs) (.agg ys)) σ Q:=by
  show wpS P ρ ((underlying t).bind _) σ Q
  rw [Ad]
  refine Az hT ?_
  show wpS P ρ (Sem.bind program _) σ Q
  rw [Ad]
  show wpS P ρ (if P.stoodInHeld t then _ else _) σ Q
  rw [if_neg (by simp [hs])]
  simp only [List.forIn_toArray]
  show wpS P ρ (Sem.bind _ _) σ Q
  rw [Ad]
  refine Uv fs ps qs hf ?_
  by_cases he:ps = qs
  · rw [if_pos he]; rw [decide_eq_true he] at h; exact h
  · rw [if_neg he]; rw [decide_eq_false he] at h; exact h
/-- Structs of numbers are compared. -/
theorem Aci {fs:List Field} {xs ys:Array Value} {ps qs:List Int} (hT:P.underlying t = some (.struct fs.toArray)) (hs:P.stoodInHeld t = false) (hg:P.eqGuardType P.depth t = false) (hx:Af e x = .agg xs) (hy:Af e y = .agg ys) (hf:EqF P xs ys fs ps qs) :
    Yld P ρ e (.binOp .neq t x y t') ty (.bool (!decide (ps = qs))) :=
  Mt (s:=(do eqGuard .neq t x y (Af e x) (Af e y); binOp .neq t (Af e x) (Af e y))) (fun _ _ _ _=>rfl) fun ρ' σ _=>by
    rw [hx,hy]
    show wpS P ρ' (Sem.bind (eqGuard .neq t x y (.agg xs) (.agg ys)) _) σ _
    rw [Ad]
    show wpS P ρ' (if (!P.eqGuardType P.depth t) = true then _ else _) σ _
    rw [if_pos (by simp [hg])]
    show wpS P ρ' ((Op.equal t (.agg xs) (.agg ys)).bind _) σ _
    rw [Ad]
    exact Ms (d:=9998) hT hs hf ⟨rfl,rfl⟩
theorem Acg {fs:List Field} {xs ys:Array Value} {ps qs:List Int} (hT:P.underlying t = some (.struct fs.toArray)) (hs:P.stoodInHeld t = false) (hg:P.eqGuardType P.depth t = false) (hx:Af e x = .agg xs) (hy:Af e y = .agg ys) (hf:EqF P xs ys fs ps qs) :
    Yld P ρ e (.binOp .eql t x y t') ty (.bool (decide (ps = qs))) :=
  Mt (s:=(do eqGuard .eql t x y (Af e x) (Af e y); binOp .eql t (Af e x) (Af e y))) (fun _ _ _ _=>rfl) fun ρ' σ _=>by
    rw [hx,hy]
    show wpS P ρ' (Sem.bind (eqGuard .eql t x y (.agg xs) (.agg ys)) _) σ _
    rw [Ad]
    show wpS P ρ' (if (!P.eqGuardType P.depth t) = true then _ else _) σ _
    rw [if_pos (by simp [hg])]
    show wpS P ρ' ((Op.equal t (.agg xs) (.agg ys)).bind _) σ _
    rw [Ad]
    exact Ms (d:=9998) hT hs hf ⟨rfl,rfl⟩
def Ahx:Value→Nat
  | .slice (some a) _ _=>a.block
  | _=>0
theorem Nw {α:Type} [Dat α] {xs:List α} {gr:Own} {el el' off':Nat} {k:IntKind} {q:Int} (i:Nat) (hT:P.underlying t = some (.slice el')) (hE:∃ i,P.info? el' = some i∧i.size = Dat.k α) (hx:Af e x = v) (hv:Grow ρ el v xs gr) (hy:Af e y = .int k q) (hq:q = (i:Int)) (hi:i < xs.length) (ho:i * Dat.k α = off') :
    Yld P ρ e (.indexAddr t x y) ty (.pointer (some ⟨Ahx v,off',none⟩)):=by
  rcases hv.2.2 with ⟨_,h2⟩ | ⟨r,cap,cs,rs,gb,h1,_⟩
  · rw [h2] at hi; simp at hi
  · subst h1
    exact Afy i hT hE hx hy hq hi (by omega)
end
section
variable {C:Ctx} {b:FB} {l₀:List Oper} {Q:Env→List Deferred→Ro→Own→Prop} {ds:List Deferred} {ρ₀ ρ₁:Ro} {pz:List Nat}
/-- More may be read from here on,in a drawn region. -/
theorem Pm (hl:((List.range l₀.length).all fun j=>!Pg l₀.toArray pz j) = true) (h01:Ro.le ρ₀ ρ₁):∀ {fuel:Nat} {li:Array Bool} {e:Env} {ds:List Deferred} {ρ:Ro} {σ:Own},Ro.le ρ₁ ρ→El C b l₀.toArray Q pz (leS ρ₁) fuel li e ds ρ σ→El C b l₀.toArray Q pz (leS ρ₀) fuel li e ds ρ σ
  | 0,li,e,ds,ρ,σ,_,h=>h
  | fuel + 1,li,e,ds,ρ,σ,hS,h=>by
    rcases h with h | ⟨ρ',σ',hg,h1,h2,h3⟩
    · exact .inl h
    · refine .inr ⟨ρ',σ',hg,fun _=>h01.trans (h1 hS),h2,fun i hi=>?_⟩
      have h4:=h3 i hi
      refine OpH.mono h4 fun e' ds' ρ'' σ'' ⟨h5,h6⟩=>?_
      have hi':i < l₀.length:=by
        have:=(List.mem_filter.1 (show i ∈ (List.range l₀.toArray.size).filter _ from hi)).1
        simpa using this
      have hlate:Pg l₀.toArray pz i = false:=by
        have:=List.all_eq_true.1 hl i (by simpa using hi')
        simpa using this
      have h7:=h5 hlate
      exact ⟨fun _=>h01.trans h7,Pm hl h01 h7 h6⟩
end
end Go.Proofs.YtphgjjmlnkgghaaGreatDoor

namespace Go.Proofs.YtphgjjmlnkgghaaGreatDoor
set_option maxHeartbeats 1000000
open Go
set_option maxRecDepth 100000 in
theorem Aba {mn:Bool} {X:Frame→List Frame→Ro→Own→Cy→Prop} {ρ:Ro} {σ:Own} {a b:List FNode} {va vb:Value} (ra:Val ρ va a) (rb:Val ρ vb b):CallsH (CX mn X) 42 #[va,vb] ρ σ (fun w ρ' σ'=>ρ' = ρ∧σ' = σ∧w = (.bool (a == b))):=by
 refine Bh (n:=26) (args:=[va,vb]) [4] Tryz.func42 rfl rfl rfl rfl fun Q hret hnor=>?_
 refine w_q rfl rfl fun K1 k1=>?_
 refine l_v (Cp (v:=(.bool (false))) rfl) ?_
 refine Ary rfl rfl k1 fun K2 K3 k2 k3=>?_
 refine l_v (Ah (v:=va) rfl) ?_
 have g4:=Val.len ra
 refine l_v (Ci (el:=127) Tryz.underlying114 rfl ra) ?_
 refine l_v (Ah (v:=vb) rfl) ?_
 have g5:=Val.len rb
 refine l_v (Ci (el:=127) Tryz.underlying114 rfl rb) ?_
 refine l_v (Dg rfl rfl) ?_
 refine l_k k3 ?_
 refine As (t:=((a.length:Nat):Int) != ((b.length:Nat):Int)) rfl (fun b6=>?_) (fun b6=>?_)
 ·have q6:=Ls b6
  refine w_q rfl rfl fun K7 k7=>?_
  refine l_v (Cp (v:=(.bool (false))) rfl) ?_
  refine l_k k7 ?_
  refine Aq ?_
  refine hret _ _ _ ⟨rfl,rfl,Eq.trans (b:=(.bool (false))) rfl ?_⟩
  rw [show (a == b) = false from beq_eq_false_iff_ne.2 (fun h=>by rw [h] at q6; omega)]
 have q6:=Jh b6
 refine Al ?_
 apply k2
 refine Asb rfl rfl fun K8 K9 k8 k9=>?_
 refine l_v (Cp (v:=(iV (0))) rfl) ?_
 refine l_k k9 ?_
 refine Ao ?_
 refine Cc (fun mm ee dd ρ' σ'=>∃ (i:Nat),(a.length - i) = mm∧[] = dd∧ρ = ρ'∧σ = σ'∧ee 0 = va∧ee 1 = vb∧ee 5 = (iV ((i:Int)))∧(i ≤ a.length)∧(∀ j,j < i→a[j]? = b[j]?)∧True) (m:=_) ⟨0,rfl,rfl,rfl,rfl,rfl,rfl,rfl,(Nat.zero_le _),(fun j h=>absurd h (Nat.not_lt_zero _)),trivial⟩ ?_
 rintro m10 e10 _ _ _ ⟨i,rfl,rfl,rfl,rfl,h10_0,h10_1,h10_5,p10_0,p10_1,_⟩
 refine Asb rfl rfl fun K11 K12 k11 k12=>?_
 refine l_v (Ah (v:=(iV ((i:Int)))) h10_5) ?_
 refine l_v (Ah (v:=va) h10_0) ?_
 have g13:=Val.len ra
 refine l_v (Ci (el:=127) Tryz.underlying114 rfl ra) ?_
 refine l_v (Da rfl rfl) ?_
 refine l_k k12 ?_
 refine As (t:=decide ((i:Int) < ((a.length:Nat):Int))) rfl (fun b14=>?_) (fun b14=>?_)
 ·have q14:=of_decide_eq_true b14
  refine Al ?_
  apply k11
  refine Ai fun K15 k15=>?_
  refine Ao ?_
  refine Ai fun K16 k16=>?_
  refine Dc [0,1,2,3,4,5,6,7,8] (by kernel_rfl) rfl rfl ?_
  refine Bd (i:=0) Aos rfl (by kernel_rfl) rfl Ash rfl (Ah (v:=va) h10_0) ?_
  refine Bd (i:=1) Aot rfl (by kernel_rfl) rfl Ash rfl (Ah (v:=(iV ((i:Int)))) h10_5) ?_
  obtain ⟨a18,ha18⟩:=Ed (xs:=a) (i:=i) (by omega)
  refine Cd (i:=2) Aou rfl (by kernel_rfl) rfl Ash rfl (Ch i Tryz.underlying114 ty94 rfl ra (q:=(i:Int)) rfl rfl ha18) fun v17 r17=>?_
  refine Cd (i:=3) Aov rfl (by kernel_rfl) rfl Ash rfl (Ax ty94 rfl r17) fun v19 r19=>?_
  refine Bd (i:=4) Aow rfl (by kernel_rfl) rfl Ash rfl (Ah (v:=vb) h10_1) ?_
  refine Bg (i:=5) Aox rfl (by kernel_rfl) rfl Ash rfl (Ah (v:=(iV ((i:Int)))) h10_5) ?_
  obtain ⟨a21,ha21⟩:=Ed (xs:=b) (i:=i) (by omega)
  refine Hk (i:=6) Aoy rfl (by kernel_rfl) rfl Ash rfl (Ch i Tryz.underlying114 ty94 rfl rb (q:=(i:Int)) rfl rfl ha21) fun v20 r20=>?_
  refine Hk (i:=7) Aoz rfl (by kernel_rfl) rfl Ash rfl (Ax ty94 rfl r20) fun v22 r22=>?_
  obtain ⟨e23_,⟨i23_1a,i23_1b⟩,⟨i23_2a,i23_2b⟩,⟨i23_3a,i23_3b⟩⟩:=FNode.open_ r19
  have e23_c:v19.cells = [(iV (a18.test)),(iV (a18.found)),(iV (a18.not))].toArray:=by rw [e23_]; rfl
  obtain ⟨e24_,⟨i24_1a,i24_1b⟩,⟨i24_2a,i24_2b⟩,⟨i24_3a,i24_3b⟩⟩:=FNode.open_ r22
  have e24_c:v22.cells = [(iV (a21.test)),(iV (a21.found)),(iV (a21.not))].toArray:=by rw [e24_]; rfl
  refine Bg (i:=8) Apa rfl (by kernel_rfl) rfl Ash rfl (Aci (ps:=[a18.test,a18.found,a18.not]) (qs:=[a21.test,a21.found,a21.not]) Tryz.underlying127 (by kernel_rfl) (by kernel_rfl) (rfl.trans e23_) (rfl.trans e24_) ⟨⟨by decide,_,Tryz.underlying3,rfl,rfl⟩,⟨by decide,_,Tryz.underlying3,rfl,rfl⟩,⟨by decide,_,Tryz.underlying3,rfl,rfl⟩,trivial⟩) ?_
  refine Ec rfl ?_
  apply k16
  refine As (t:=!(decide ([a18.test,a18.found,a18.not] = [a21.test,a21.found,a21.not]))) rfl (fun b25=>?_) (fun b25=>?_)
  ·have b26:=not_eq_t b25
   have q26:=of_decide_eq_false b26
   refine w_q rfl rfl fun K27 k27=>?_
   refine l_v (Cp (v:=(.bool (false))) rfl) ?_
   refine l_k k27 ?_
   refine Aq ?_
   refine hret _ _ _ ⟨rfl,rfl,Eq.trans (b:=(.bool (false))) rfl ?_⟩
   rw [show (a == b) = false from beq_eq_false_iff_ne.2 (fun h=>by rw [h,ha21] at ha18; cases ha18; exact q26 rfl)]
  have b28:=not_eq_f b25
  have q28:=of_decide_eq_true b28
  refine Al ?_
  apply k15
  refine Ag rfl rfl ?_
  refine l_v (Ah (v:=(iV ((i:Int)))) h10_5) ?_
  refine l_v (Br rfl rfl (z:=(((i + 1):Nat):Int)) (Bo (by first | rfl | omega | (push_cast; rfl)) (by omega) (by omega))) ?_
  refine l_v (Cp (v:=(iV ((((i + 1):Nat):Int)))) rfl) ?_
  apply Ac
  refine ⟨_,?_,((i + 1)),rfl,rfl,rfl,rfl,h10_0,h10_1,rfl,(by omega),(Eg p10_1 (by rw [ha18,ha21]; have:=q28; simp only [List.cons.injEq,and_true] at this; obtain ⟨e1,e2,e3⟩:=this; cases a18; cases a21; simp_all)),trivial⟩
  omega
 have q14:=of_decide_eq_false b14
 refine Bx ?_
 apply k8
 refine w_q rfl rfl fun K29 k29=>?_
 refine l_v (Cp (v:=(.bool (true))) rfl) ?_
 refine l_k k29 ?_
 refine Aq ?_
 refine hret _ _ _ ⟨rfl,rfl,Eq.trans (b:=(.bool (true))) rfl ?_⟩
 rw [Alq (by omega) fun j hj=>p10_1 j (by omega)]
end Go.Proofs.YtphgjjmlnkgghaaGreatDoor

namespace Go.Proofs.YtphgjjmlnkgghaaGreatDoor
open Go
structure MapRef where
  r:Nat
instance:Dat MapRef where
  k:=1
  agg:=false
  rep _ cs x:=cs = [.map (some x.r)]
  mono _ h:=h
  len h:=by rw [h]; rfl
  sgl h:=by rw [h]; simp [single]
  one _:=rfl
/-- A pointer to data that is only read. -/
structure Ptr (α:Type) where
  v:α
instance {α:Type} [Dat α]:Dat (Ptr α) where
  k:=1
  agg:=false
  rep ρ cs x:=∃ p,cs = [p]∧At ρ p x.v
  mono h:=fun ⟨p,h1,h2⟩=>⟨p,h1,h2.mono h⟩
  len:=fun ⟨p,h1,_⟩=>by rw [h1]; rfl
  sgl:=fun ⟨p,h1,b,off,_,_,_,_,_,h2,_⟩ c hc=>by rw [h1,List.mem_singleton] at hc; rw [hc,h2]; rfl
  one _:=rfl
theorem Ir {α:Type} [Dat α] {ρ:Ro} {p:Value} {x:α}:Val ρ p (Ptr.mk x)↔At ρ p x :=
  ⟨fun ⟨cs,⟨q,h1,h2⟩,h3⟩=>by rw [h3,h1]; exact h2,fun h=>⟨[p],⟨p,rfl,h⟩,rfl⟩⟩
/-- Any value of one cell. -/
structure RawV where
  v:Value
instance:Dat RawV where
  k:=1
  agg:=false
  rep _ cs x:=cs = [x.v]∧single x.v = true
  mono _ h:=h
  len h:=by rw [h.1]; rfl
  sgl h:=by rw [h.1]; intro c hc; rw [List.mem_singleton] at hc; rw [hc]; exact h.2
  one _:=rfl
theorem Sp {ρ:Ro} {v:Value} (h:single v = true):Val ρ v (RawV.mk v):=⟨[v],⟨rfl,h⟩,rfl⟩
theorem Lb {P:Program} {ρ:Ro} {e:Env} {ty t:TypeId} {x:Operand} {p v:Value} (hT:GoTy P t RawV) (hx:Af e x = p) (hp:At ρ p (RawV.mk v)):Yld P ρ e (.load t x) ty v:=by
  obtain ⟨w,h1,h2⟩:=Ax (ty:=ty) hT hx hp
  obtain ⟨cs,h3,h4⟩:=h1
  rw [h4,h3.1] at h2; exact h2
/-- A number without a sign. -/
structure UW where
  n:Nat
deriving DecidableEq
instance:Dat UW where
  k:=1
  agg:=false
  rep _ cs x:=cs = [.int .u64 (x.n:Int)]
  mono _ h:=h
  len h:=by rw [h]; rfl
  sgl h:=by rw [h]; simp [single]
  one _:=rfl
theorem Rq {ρ:Ro} {v:Value} {x:UW}:Val ρ v x↔v = .int .u64 (x.n:Int) :=
  ⟨fun ⟨cs,h1,h2⟩=>by rw [h2,show cs = [.int .u64 (x.n:Int)] from h1]; rfl,fun h=>⟨[v],by rw [h]; rfl,rfl⟩⟩
/-- Five numbers. -/
structure Arr5 where
  l:List Int
instance:Dat Arr5 where
  k:=5
  agg:=true
  rep _ cs x:=cs = x.l.map (Value.int .i64)∧x.l.length = 5∧∀ a ∈ x.l,I64 a
  mono _ h:=h
  len h:=by rw [h.1,List.length_map,h.2.1]
  sgl h:=by rw [h.1]; intro c hc; obtain ⟨a,_,rfl⟩:=List.mem_map.1 hc; rfl
  one h:=by cases h
structure Bench where
  probes:List Probe
  all:Int
  depths:MapRef
instance:Dat Bench:=.iso fun x=>(x.probes,(x.all,x.depths))
theorem Bench.f_probes:Fld Bench (List Probe) 0 Bench.probes:=⟨fun ρ cs x=>(Fld.fst:Fld (List Probe × (Int × MapRef)) (List Probe) 0 _).at_ ρ cs (x.probes,(x.all,x.depths))⟩
theorem Bench.f_all:Fld Bench Int 1 Bench.all:=⟨fun ρ cs x=>((.snd Fld.fst):Fld (List Probe × (Int × MapRef)) Int 1 _).at_ ρ cs (x.probes,(x.all,x.depths))⟩
theorem Bench.f_depths:Fld Bench MapRef 2 Bench.depths:=⟨fun ρ cs x=>((.snd (.snd Fld.self)):Fld (List Probe × (Int × MapRef)) MapRef 2 _).at_ ρ cs (x.probes,(x.all,x.depths))⟩
theorem Bench.shut {ρ:Ro} {x:Bench} {c0:Value} (h0:Val ρ c0 x.probes) (h1:I64 x.all):Val ρ (.agg #[c0,.int .i64 x.all,.map (some x.depths.r)]) x :=
  ⟨[c0,.int .i64 x.all,.map (some x.depths.r)],⟨[c0],[.int .i64 x.all] ++ [.map (some x.depths.r)],rfl,⟨c0,rfl,Cs.1 h0⟩,[.int .i64 x.all],[.map (some x.depths.r)],rfl,⟨rfl,h1⟩,rfl⟩,rfl⟩
/-- A market with what each house can give. -/
structure GMarket where
  m:Market
  gives:Arr5
instance:Dat GMarket:=.iso fun x=>(x.m,x.gives)
theorem GMarket.f_m:Fld GMarket Market 0 GMarket.m:=⟨fun ρ cs x=>(Fld.fst:Fld (Market × Arr5) Market 0 _).at_ ρ cs (x.m,x.gives)⟩
theorem GMarket.f_gives:Fld GMarket Arr5 4 GMarket.gives:=⟨fun ρ cs x=>((.snd Fld.self):Fld (Market × Arr5) Arr5 4 _).at_ ρ cs (x.m,x.gives)⟩
theorem Adt:GoTy Tryz.prog 256 MapRef:=⟨⟨_,Tryz.underlying256,rfl⟩,⟨_,Ab Tryz.typeInfo256,rfl⟩⟩
theorem Sc:GoTy Tryz.prog 190 (Ptr Bench):=⟨⟨_,Tryz.underlying190,rfl⟩,⟨_,Ab Tryz.typeInfo190,rfl⟩⟩
theorem Aqa:GoTy Tryz.prog 199 RawV:=⟨⟨_,Tryz.underlying199,rfl⟩,⟨_,Ab Tryz.typeInfo199,rfl⟩⟩
theorem Aqc:GoTy Tryz.prog 221 RawV:=⟨⟨_,Tryz.underlying221,rfl⟩,⟨_,Ab Tryz.typeInfo221,rfl⟩⟩
theorem Zt:GoTy Tryz.prog 209 UW:=⟨⟨_,Tryz.underlying209,rfl⟩,⟨_,Ab Tryz.typeInfo209,rfl⟩⟩
theorem Aqb:GoTy Tryz.prog 215 (List UW):=⟨⟨_,Tryz.underlying215,rfl⟩,⟨_,Ab Tryz.typeInfo215,rfl⟩⟩
theorem Ads:GoTy Tryz.prog 205 Arr5:=⟨⟨_,Tryz.underlying205,rfl⟩,⟨_,Ab Tryz.typeInfo205,rfl⟩⟩
theorem Wk:GoTy Tryz.prog 208 GMarket:=⟨⟨_,Tryz.underlying208,rfl⟩,⟨_,Ab Tryz.typeInfo208,rfl⟩⟩
theorem Va {P:Program} {ρ:Ro} {e:Env} {ty t:TypeId} {x:Operand} {p:Value} {a:MapRef} (hT:GoTy P t MapRef) (hx:Af e x = p) (hp:At ρ p a):Yld P ρ e (.load t x) ty (.map (some a.r)):=by
  obtain ⟨v,h1,h2⟩:=Ax (ty:=ty) hT hx hp
  obtain ⟨cs,h3,h4⟩:=h1
  rw [h4,show cs = [.map (some a.r)] from h3] at h2; exact h2
theorem Aga {P:Program} {ρ:Ro} {e:Env} {ty t:TypeId} {x:Operand} {p:Value} {a:UW} (hT:GoTy P t UW) (hx:Af e x = p) (hp:At ρ p a):Yld P ρ e (.load t x) ty (.int .u64 (a.n:Int)):=by
  obtain ⟨v,h1,h2⟩:=Ax (ty:=ty) hT hx hp
  rw [Rq.1 h1] at h2; exact h2
/-- Two package-level variables,which nobody writes to. -/
structure Glob (ρ:Ro):Prop where
  over:∃ t fz,ρ 0 = some (.cells #[.int .i64 0,.int .i64 0] t fz)
  can:∃ t fz,ρ 1 = some (.cells #[.func (.func 209) #[] #[],.func (.func 207) #[] #[]] t fz)
theorem Glob.mono {ρ ρ':Ro} (h:Ro.le ρ ρ') (hg:Glob ρ):Glob ρ' :=
  ⟨let ⟨t,fz,h1⟩:=hg.over; ⟨t,fz,h _ _ h1⟩,let ⟨t,fz,h1⟩:=hg.can; ⟨t,fz,h _ _ h1⟩⟩
section
variable {C:Ctx} {e:Env} {ds:List Deferred} {ρ:Ro} {σ:Own} {K:Value→List Deferred→Ro→Own→Prop} {rd:Option Nat} {dd:Option Tmp}
variable {ty:TypeId} {pos:String} {af:Array Edge} {g:Option (Nat × Bool)} {x y u:Operand} {v p:Value} {t t':TypeId} {P:Program}
theorem Ck {a:Addr} (hx:Af e x = .pointer (some a)):Yld P ρ e (.nilCheck x) ty (.pointer (some a)):=fun ρ' σ d pos af g _=>by
  unfold execOp
  simp only [hx]
  exact ⟨rfl,rfl⟩
theorem At.ptr {α:Type} [Dat α] {a:α} (h:At ρ p a):∃ ad,p = .pointer (some ad):=let ⟨b,off,_,_,_,_,_,h1,_⟩:=h; ⟨_,h1⟩
theorem Hj {α:Type} [Dat α] {a:α} (hx:Af e x = p) (h:At ρ p a):Yld P ρ e (.nilCheck x) ty p:=by
  obtain ⟨ad,rfl⟩:=h.ptr
  exact Ck hx
theorem Il {fn:Fn} {caps:List Operand} {vs:List Value} (hv:EvL e caps vs):Yld P ρ e (.makeFunc fn #[] caps.toArray) ty (.func fn #[] vs.toArray):=fun ρ' σ d pos af g _=>by
  show wpS P ρ' ((Instr.makeFunc fn ((#[]:Array Operand).map (Af e)) (caps.toArray.map (Af e))).bind fun v=>Sem.pure (Next.value v)) σ _
  have e0:(#[]:Array Operand).map (Af e) = #[]:=by simp
  rw [hv.map,e0]
  exact ⟨rfl,rfl⟩
/-- One cell of a block that is only read. -/
theorem Aae {b off:Nat} {c:Array Value} {fz:Nat × Nat} (hT:∃ d,P.underlying t = some d∧Qv d = false) (hx:Af e x = .pointer (some ⟨b,off,none⟩)) (hb:ρ b = some (.cells c t' fz)) (hc:c[off]? = some v):Yld P ρ e (.load t x) ty v :=
  Mt (s:=Instr.loadAt t (Af e x)) (fun _ _ _ _=>rfl) fun ρ' σ hle=>by
    rw [hx]
    show wpS P ρ' ((isAgg t).bind _) σ _
    rw [Ad]
    refine Hi hT ?_
    exact ⟨rfl,rfl,_,v,.inl (hle _ _ hb),by simpa [Gy] using hc,rfl,rfl⟩
/-- A closure,or another function value,that is called. -/
theorem Sq {f:FuncId} {fn:Func} {args:List Operand} {tys:Array TypeId} {vs caps:List Value} {R:Value→Ro→Own→Prop} (hx:Af e x = .func (.func f) #[] caps.toArray) (hc:CallsH C f (vs ++ caps).toArray ρ σ R) (hf:C.P.funcs[f]? = some fn) (hn:(fn.name == "runtime.NumGoroutine") = false) (hb:fn.body.isNone = false)
    (hv:EvL e args vs) (h:∀ v ρ' σ',R v ρ' σ'→K v ds ρ' σ'):wpS C.P ρ (execOp (Af e) ⟨dd,.call ⟨.value x,args.toArray,tys⟩,ty,pos,af,g⟩) σ (NextH C K rd ds ρ):=by
  have hv':=hv.map
  show wpS C.P ρ ((Deferred.ofValue (Af e x) (args.toArray.map (Af e))).bind _) σ _
  rw [hx,hv']
  show wpS C.P ρ (callFunc f ((#[] ++ vs.toArray) ++ caps.toArray)) σ _
  have e1:((#[] ++ vs.toArray) ++ caps.toArray:Array Value) = (vs ++ caps).toArray:=by simp
  rw [e1]
  exact Mr hf hn hb (hc.mono h)
theorem Ur {f:FuncId} {fn:Func} {args:List Operand} {tys:Array TypeId} {vs caps:List Value} (hx:Af e x = .func (.func f) #[] caps.toArray) (hc:CallsH C f (vs ++ caps).toArray ρ σ (fun w ρ' σ'=>ρ' = ρ∧σ' = σ∧w = v)) (hf:C.P.funcs[f]? = some fn) (hn:(fn.name == "runtime.NumGoroutine") = false) (hb:fn.body.isNone = false)
    (hv:EvL e args vs) (h:K v ds ρ σ):wpS C.P ρ (execOp (Af e) ⟨dd,.call ⟨.value x,args.toArray,tys⟩,ty,pos,af,g⟩) σ (NextH C K rd ds ρ) :=
  Sq hx hc hf hn hb hv (by rintro w ρ' σ' ⟨rfl,rfl,rfl⟩; exact h)
end
/-- Called with such data,while this may be read,the function yields p of it and leaves everything as it was. -/
def PredR {α:Type} [Dat α] (ρ₀:Ro) (f:Value) (D:α→Prop) (p:α→Bool):Prop :=
  ∃ (k:FuncId) (fn:Func) (caps:List Value),f = .func (.func k) #[] caps.toArray∧Tryz.prog.funcs[k]? = some fn∧(fn.name == "runtime.NumGoroutine") = false∧fn.body.isNone = false ∧
    ∀ (mn:Bool) (X:Frame→List Frame→Ro→Own→Cy→Prop) (ρ:Ro) (σ:Own) (v:Value) (x:α),Ro.le ρ₀ ρ→D x→Val ρ v x→CallsH (CX mn X) k (v :: caps).toArray ρ σ (fun w ρ' σ'=>ρ' = ρ∧σ' = σ∧w = .bool (p x))
theorem PredR.mono {α:Type} [Dat α] {ρ₀ ρ₁:Ro} {f:Value} {D:α→Prop} {p:α→Bool} (h:Ro.le ρ₀ ρ₁):PredR ρ₀ f D p→PredR ρ₁ f D p:=fun ⟨k,fn,caps,h1,h2,h3,h4,h5⟩=>⟨k,fn,caps,h1,h2,h3,h4,fun mn X ρ σ v x hle hD hv=>h5 mn X ρ σ v x (h.trans hle) hD hv⟩
theorem PredR.single {α:Type} [Dat α] {ρ₀:Ro} {f:Value} {D:α→Prop} {p:α→Bool} (h:PredR ρ₀ f D p):single f = true:=by
  obtain ⟨k,fn,caps,h1,_⟩:=h; rw [h1]; rfl
theorem IterF.mono {ρ₀ ρ₁:Ro} {f:Value} {ys:List Value} (h:Ro.le ρ₀ ρ₁):IterF f ρ₀ ys→IterF f ρ₁ ys:=fun ⟨k,fn,caps,h1,h2,h3,h4,h5⟩=>⟨k,fn,caps,h1,h2,h3,h4,fun mn X l I ρ σ hle=>h5 mn X l I ρ σ (h.trans hle)⟩
theorem Adv {e:Env} {ds:List Deferred} {ρ ρ₀:Ro} {σ:Own} {K:Value→List Deferred→Ro→Own→Prop} {rd:Option Nat} {dd:Option Tmp} {ty:TypeId} {pos:String} {af:Array Edge} {g:Option (Nat × Bool)} {x y:Operand} {v:Value} {α:Type} [Dat α] {mn:Bool} {X:Frame→List Frame→Ro→Own→Cy→Prop} {f:Value} {D:α→Prop} {pr:α→Bool} {a:α} {tys:Array TypeId}
    (hf:PredR ρ₀ f D pr) (hle:Ro.le ρ₀ ρ) (hD:D a) (hx:Af e x = f) (hy:Af e y = v) (hv:Val ρ v a) (h:K (.bool (pr a)) ds ρ σ) :
    wpS (CX mn X).P ρ (execOp (Af e) ⟨dd,.call ⟨.value x,#[y],tys⟩,ty,pos,af,g⟩) σ (NextH (CX mn X) K rd ds ρ):=by
  obtain ⟨k,fn,caps,rfl,h1,h2,h3,h4⟩:=hf
  exact Ur (args:=[y]) (vs:=[v]) (caps:=caps) (C:=CX mn X) hx (h4 mn X ρ σ v a hle hD hv) h1 h2 h3 ⟨hy,trivial⟩ h
/-- A call by its body,which leaves the mark of one range over a function. -/
theorem Nz {C:Ctx} {f:FuncId} {fn:Func} {c:Code} {n:Nat} {args:List Value} {ρ:Ro} {σ:Own} {R:Value→Ro→Own→Prop} (rs:List Nat) (hf:C.P.funcs[f]? = some fn) (hc:fn.body = some c) (hn:fn.ntmps = n) (ha:Nat.ble args.length n = true) (hr:fn.results = (rs.map ResultVar.tmp).toArray)
    (h:∀ Q:Hu,(∀ e ρ' σ' r,R (Abp rs e) ρ' σ'→Q .ret e [{ target:=.collected r,args:=#[] }] ρ' ((r,.obj (.deferred (some []))) :: σ'))→(∀ e ρ' σ' r,R (Abp rs e) ρ' σ'→Q .normal e [{ target:=.collected r,args:=#[] }] ρ' ((r,.obj (.deferred (some []))) :: σ'))→WpC C ⟨f,.normal,none⟩ n c Q (Pn args) [] ρ σ):CallsH C f args.toArray ρ σ R:=by
  have h1:CallsH C f args.toArray ρ σ (fun v ρ' σ'=>∃ r o σ'',σ' = (r,Res.obj o) :: σ''∧R v ρ' σ''):=by
    refine Oy hf hc hn (Nat.le_of_ble_eq_true ha) (h _ (fun e ρ' σ' r hR=>⟨fun id h=>(by cases h),?_⟩) (fun e ρ' σ' r hR=>⟨fun id h=>(by cases h),?_⟩)) <;>
    · refine ⟨r,0,rfl,rfl,?_⟩
      exact Lm (Q:=fun v σ'=>∃ r o σ'',σ' = (r,Res.obj o) :: σ''∧R v ρ' σ'') hr ⟨r,_,σ',rfl,hR⟩
  intro c' cs
  refine (h1 c' cs).bind ?_
  rintro _ _ ρ' σ' ⟨v,rfl,rfl,r,o,σ'',rfl,hR⟩
  exact .ghost Ghost.drop (.stop ⟨v,rfl,rfl,hR⟩)
/-- What is held may be told otherwise behind a piece of code. -/
def Vl (Q:Hu):Hu:=fun ex e ds ρ σ=>∃ ρ' σ',Ghost ρ σ ρ' σ'∧Q ex e ds ρ' σ'
theorem Aab {C:Ctx} {b:FB} {n:Nat} {c:Code} {Q:Hu} {e:Env} {ds:List Deferred} {ρ:Ro} {σ:Own} (h:WpC C b n c (Vl Q) e ds ρ σ):WpC C b n c Q e ds ρ σ:=fun tm k cs ht=>by
  refine (h tm k cs ht).bind ?_
  rintro _ _ ρ' σ' ⟨h1,ex,tm',e',ds',todo,h2,⟨ρ1,σ1,hg,hq⟩,h3,h4⟩
  exact .ghost hg (.stop ⟨h1,ex,tm',e',ds',todo,h2,hq,h3,h4⟩)
theorem Yn {Q:Hu} {ex:Ex} {e:Env} {ds:List Deferred} {ρ ρ':Ro} {σ σ':Own} (hg:Ghost ρ σ ρ' σ') (h:Vl Q ex e ds ρ' σ'):Vl Q ex e ds ρ σ :=
  let ⟨ρ1,σ1,h1,h2⟩:=h; ⟨ρ1,σ1,hg.trans h1,h2⟩
theorem Adc {Q:Hu} {ex:Ex} {e:Env} {ds:List Deferred} {ρ:Ro} {σ:Own} (h:Q ex e ds ρ σ):Vl Q ex e ds ρ σ:=⟨ρ,σ,.refl,h⟩
theorem Yp {I:List Value→Ro→Own→Prop} {pre pre':List Value} {ρ:Ro} {σ:Own} (h:pre' = pre) (hi:I pre ρ σ):I pre' ρ σ:=by rw [h]; exact hi
theorem Fe (A B C:Own):(A ++ (B ++ C)).Perm (B ++ (A ++ C)):=List.perm_append_comm_assoc A B C
theorem Xg {α:Type} {f:α→Value} (hf:∀ a b,f a = f b→a = b):∀ {l m:List α},l.map f = m.map f→l = m
  | [],[],_=>rfl
  | [],_ :: _,h=>by cases h
  | _ :: _,[],h=>by cases h
  | a :: l,b :: m,h=>by
    simp only [List.map_cons,List.cons.injEq] at h
    rw [hf a b h.1,Xg hf h.2]
theorem Nf {α:Type} {f:α→Value} (hf:∀ a b,f a = f b→a = b) {l m:List α} (h:l.map f = m.map f):m = l:=(Xg hf h).symm
theorem Ly {α:Type} {f:α→Value} (hf:∀ a b,f a = f b→a = b) {l l1:List α} {x:Value} {post:List Value} (h:l.map f = l1.map f ++ x :: post):∃ a l2,l = l1 ++ a :: l2∧x = f a:=by
  obtain ⟨k1,k2,h1,h2,h3⟩:=List.map_eq_append_iff.1 h
  obtain ⟨a,l2,h4,h5,h6⟩:=List.map_eq_cons_iff.1 h3
  have:=Xg hf h2
  subst this
  exact ⟨a,l2,by rw [h1,h4],h5.symm⟩
theorem Yi:∀ a b:Nat,Value.int .i64 (a:Int) = .int .i64 (b:Int)→a = b:=fun a b h=>by injection h with _ h; omega
theorem Apq:∀ a b:Nat,Value.int .u64 (a:Int) = .int .u64 (b:Int)→a = b:=fun a b h=>by injection h with _ h; omega
/-- Such entries,each of which holds what φ says of its key. -/
def Jo (es:Array MapEntry) (V:Int→Int→Value→Prop):Prop:=∀ en ∈ es.toList,∃ a b,en.key = .agg #[.int .i64 a,.int .i64 b]∧V a b en.val
theorem Aii {V:Int→Int→Value→Prop}:Jo #[] V:=fun en h=>by cases h
section
variable {C:Ctx} {e:Env} {ds:List Deferred} {ρ:Ro} {σ:Own} {K:Value→List Deferred→Ro→Own→Prop} {rd:Option Nat} {dd:Option Tmp}
variable {ty:TypeId} {pos:String} {af:Array Edge} {g:Option (Nat × Bool)} {x y u:Operand} {v p:Value} {t t':TypeId} {P:Program}
/-- Two numbers side by side. -/
structure Key2 (P:Program) (kt:TypeId):Prop where
  und:∃ f1 f2,P.underlying kt = some (.struct #[f1,f2])∧(f1.name ≠ "_"∧f1.offset = 0∧P.underlying f1.type = some (.int .i64))∧(f2.name ≠ "_"∧f2.offset = 1∧P.underlying f2.type = some (.int .i64))
  held:P.stoodInHeld kt = false
theorem Key2.eqF {kt:TypeId} (h:Key2 P kt) {a b c d:Int}:∃ fs:List Field,P.underlying kt = some (.struct fs.toArray)∧EqF P #[.int .i64 a,.int .i64 b] #[.int .i64 c,.int .i64 d] fs [a,b] [c,d]:=by
  obtain ⟨f1,f2,h1,⟨h2,h3,h4⟩,h5,h6,h7⟩:=h.und
  exact ⟨[f1,f2],h1,⟨h2,_,h4,by rw [h3]; rfl,by rw [h3]; rfl⟩,⟨h5,_,h7,by rw [h6]; rfl,by rw [h6]; rfl⟩,trivial⟩
theorem Us {kt:TypeId} (hk:Key2 P kt) {a b:Int} {V:Int→Int→Value→Prop} {Q:Option (Nat × Value)→Own→Prop}:∀ (es:List MapEntry) (i:Nat),(∀ en ∈ es,∃ c d,en.key = .agg #[.int .i64 c,.int .i64 d]∧V c d en.val) →
    Q none σ→(∀ j en,es[j]? = some en→en.key = .agg #[.int .i64 a,.int .i64 b]→V a b en.val→Q (some (i + j,en.val)) σ)→wpS P ρ (Instr.findAsking kt (.agg #[.int .i64 a,.int .i64 b]) es i) σ Q
  | [],i,_,h0,_=>h0
  | en :: es,i,he,h0,h1=>by
    obtain ⟨c,d,hkey,hV⟩:=he en (List.mem_cons_self ..)
    show wpS P ρ ((Op.equal kt (.agg #[.int .i64 a,.int .i64 b]) en.key).bind _) σ Q
    rw [Ad,hkey]
    obtain ⟨fs,hT,hf⟩:=hk.eqF (a:=a) (b:=b) (c:=c) (d:=d)
    refine Ms (d:=9998) hT hk.held hf ?_
    by_cases hab:[a,b] = [c,d]
    · rw [decide_eq_true hab]
      simp only [List.cons.injEq,and_true] at hab
      obtain ⟨rfl,rfl⟩:=hab
      exact h1 0 en rfl hkey hV
    · rw [decide_eq_false hab]
      refine Us hk es (i + 1) (fun x hx=>he x (List.mem_cons_of_mem _ hx)) h0 fun j x hx hxk hxV=>?_
      have:=h1 (j + 1) x (by simpa using hx) hxk hxV
      rw [show i + 1 + j = i + (j + 1) by omega]; exact this
theorem Qp {kt:TypeId} (hk:Key2 P kt) {a b:Int} {V:Int→Int→Value→Prop} {es:Array MapEntry} (hs:Jo es V) {Q:Option (Nat × Value)→Own→Prop}
    (h0:Q none σ) (h1:∀ j en,es[j]? = some en→en.key = .agg #[.int .i64 a,.int .i64 b]→V a b en.val→Q (some (j,en.val)) σ):wpS P ρ (Instr.findKey kt (.agg #[.int .i64 a,.int .i64 b]) es.toList) σ Q:=by
  obtain ⟨f1,f2,hT,_⟩:=hk.und
  show wpS P ρ ((underlying kt).bind _) σ Q
  rw [Ad]
  refine Az hT ?_
  have key:∀ l:List MapEntry,l ≠ []→Instr.findNow (.struct #[f1,f2]) (.agg #[.int .i64 a,.int .i64 b]) l 0 = none:=fun l hl=>by
    cases l with
    | nil=>exact absurd rfl hl
    | cons en l=>rfl
  cases hl:es.toList with
  | nil=>exact h0
  | cons en l =>
    have hnow:=key (en :: l) (by simp)
    simp only [hnow]
    refine Us hk _ 0 (by rw [← hl]; exact hs) h0 fun j x hx hxk hxV=>?_
    have:=h1 j x (by rw [← Array.getElem?_toList,hl]; exact hx) hxk hxV
    simpa using this
theorem Uu {kt:TypeId} (hk:Key2 P kt) {a b:Int} {em:Bool} {m:Nat} {Q:Unit→Own→Prop} (h:Q () σ):wpS P ρ (Instr.checkKey em (m + 2) kt (.agg #[.int .i64 a,.int .i64 b])) σ Q:=by
  obtain ⟨f1,f2,hT,⟨h2,h3,h4⟩,h5,h6,h7⟩:=hk.und
  show wpS P ρ ((underlying kt).bind _) σ Q
  rw [Ad]
  refine Az hT ?_
  show wpS P ρ (Sem.bind (forIn #[f1,f2] _ _) _) σ Q
  rw [Ad]
  have e1:(#[f1,f2]:Array Field) = [f1,f2].toArray:=rfl
  rw [e1,List.forIn_toArray,List.forIn_cons]
  show wpS P ρ (Sem.bind _ _) σ _
  rw [Ad,if_pos h2]
  show wpS P ρ (Sem.bind (part f1.type #[.int .i64 a,.int .i64 b] f1.offset) _) σ _
  rw [Ad]
  refine Qr (v:=.int .i64 a) ⟨_,h4,rfl⟩ (by rw [h3]; rfl) ?_
  show wpS P ρ (Sem.bind (Instr.checkKey em (m + 1) f1.type (.int .i64 a)) _) σ _
  rw [Ad]
  show wpS P ρ ((underlying f1.type).bind _) σ _
  rw [Ad]
  refine Az h4 ?_
  show wpS P ρ (forIn [f2] _ _) σ _
  rw [List.forIn_cons]
  show wpS P ρ (Sem.bind _ _) σ _
  rw [Ad,if_pos h5]
  show wpS P ρ (Sem.bind (part f2.type #[.int .i64 a,.int .i64 b] f2.offset) _) σ _
  rw [Ad]
  refine Qr (v:=.int .i64 b) ⟨_,h7,rfl⟩ (by rw [h6]; rfl) ?_
  show wpS P ρ (Sem.bind (Instr.checkKey em (m + 1) f2.type (.int .i64 b)) _) σ _
  rw [Ad]
  show wpS P ρ ((underlying f2.type).bind _) σ _
  rw [Ad]
  refine Az h7 ?_
  exact h
/-- Is there something of this key? -/
theorem Xp {i r clock:Nat} {kt et:TypeId} {a b:Int} {z:Value} {es:Array MapEntry} {V:Int→Int→Value→Prop} (hT:C.P.underlying t = some (.map kt et)) (hk:Key2 C.P kt) (hz:Fw C.P et z) (hs:Jo es V)
    (hx:Af e x = .map (some r)) (hy:Af e y = .agg #[.int .i64 a,.int .i64 b]) (hi:σ[i]? = some (r,.obj (.map es clock))) (h0:K (.tuple #[z,.bool false]) ds ρ σ) (h1:∀ w,V a b w→K (.tuple #[w,.bool true]) ds ρ σ) :
    wpS C.P ρ (execOp (Af e) ⟨dd,.lookup t x y true,ty,pos,af,g⟩) σ (NextH C K rd ds ρ):=by
  show wpS C.P ρ ((Instr.lookup t (Af e x) (Af e y) true).bind _) σ _
  refine Gd ?_
  rw [hx,hy]
  show wpS C.P ρ ((underlying t).bind _) σ _
  rw [Ad]
  refine Az hT ?_
  show wpS C.P ρ ((getObj r).bind _) σ _
  rw [Ad]
  refine ⟨_,.inr (List.mem_of_getElem? hi),rfl,?_⟩
  show wpS C.P ρ ((Instr.checkKey es.isEmpty 10000 kt _).bind _) σ _
  rw [Ad]
  refine Uu (m:=9998) hk ?_
  show wpS C.P ρ ((Instr.findKey kt _ es.toList).bind _) σ _
  rw [Ad]
  refine Qp hk hs ?_ fun j en _ _ hV=>h1 _ hV
  show wpS C.P ρ ((zeroValue et).bind _) σ _
  rw [Ad]
  exact Jz hz h0
theorem Xt {old new:Value} {Q:Value→Own→Prop} (hw:old = new) (h:Q new σ):wpS P ρ (Instr.keyThatStays old new) σ Q:=by
  subst hw
  unfold Instr.keyThatStays
  split
  · exact h
  · show wpS P ρ (Sem.bind (choose _) _) σ Q
    rw [Ad]
    show (if _ then _ else _)
    have key:∀ n:Nat,(if n = 0 then old else old) = old:=fun n=>by split <;> rfl
    split
    · simp only [key]; exact h
    · intro t; simp only [key]; exact h
/-- Something of this key. -/
theorem Afs {i r clock:Nat} {kt et:TypeId} {a b:Int} {w:Value} {es:Array MapEntry} {V:Int→Int→Value→Prop} (hT:C.P.underlying t = some (.map kt et)) (hk:Key2 C.P kt) (hs:Jo es V) (hV:V a b w)
    (hx:Af e x = .map (some r)) (hy:Af e y = .agg #[.int .i64 a,.int .i64 b]) (hu:Af e u = w) (hi:σ[i]? = some (r,.obj (.map es clock)))
    (h:∀ es' clock',Jo es' V→K undef ds ρ (σ.set i (r,.obj (.map es' clock')))):wpS C.P ρ (execOp (Af e) ⟨dd,.mapUpdate t x y u,ty,pos,af,g⟩) σ (NextH C K rd ds ρ):=by
  show wpS C.P ρ ((Instr.mapUpdate t (Af e x) (Af e y) (Af e u)).bind _) σ _
  refine Rs ?_
  rw [hx,hy,hu]
  show wpS C.P ρ ((underlying t).bind _) σ _
  rw [Ad]
  refine Az hT ?_
  show wpS C.P ρ ((getObj r).bind _) σ _
  rw [Ad]
  refine ⟨_,.inr (List.mem_of_getElem? hi),rfl,?_⟩
  show wpS C.P ρ ((Instr.checkKey false 10000 kt _).bind _) σ _
  rw [Ad]
  refine Uu (m:=9998) hk ?_
  show wpS C.P ρ ((Instr.findKey kt _ es.toList).bind _) σ _
  rw [Ad]
  refine Qp hk hs ?_ fun j en hj hkey _=>?_
  · refine ⟨rfl,i,_,hi,rfl,h _ _ fun en hen=>?_⟩
    rw [Array.toList_push,List.mem_append,List.mem_singleton] at hen
    rcases hen with hen | rfl
    · exact hs en hen
    · exact ⟨a,b,rfl,hV⟩
  · show wpS C.P ρ ((Instr.keyThatStays (((es[j]?).map (·.key)).getD _) _).bind _) σ _
    rw [Ad,hj]
    refine Xt hkey ?_
    refine ⟨rfl,i,_,hi,rfl,h _ _ fun en' hen=>?_⟩
    rw [Array.toList_modify] at hen
    obtain ⟨n,hn⟩:=List.getElem?_of_mem hen
    rw [List.getElem?_modify] at hn
    obtain ⟨en0,h2,h3⟩:=Option.map_eq_some_iff.1 hn
    have hm:=hs en0 (List.mem_of_getElem? h2)
    split at h3
    · subst h3; exact ⟨a,b,rfl,hV⟩
    · subst h3; exact hm
end
theorem Aic:Key2 Tryz.prog 201:=⟨⟨_,_,Tryz.underlying201,⟨by decide,rfl,Tryz.underlying191⟩,⟨by decide,rfl,Tryz.underlying3⟩⟩,by kernel_rfl⟩
end Go.Proofs.YtphgjjmlnkgghaaGreatDoor
