/- Part 6 of what all laws of layer 8 need: a logic of programs that start goroutines, and what the functions yield. -/
import Derived.Test.YtphgjjmlnkgghaaGreatDoorB5
set_option linter.unusedVariables false
set_option linter.unusedSimpArgs false
set_option maxRecDepth 100000
namespace Go.Proofs.YtphgjjmlnkgghaaGreatDoor
section
set_option maxHeartbeats 1000000
open Go
variable {mn:Bool} {X:Frame→List Frame→Ro→Own→Cy→Prop} {ρ:Ro} {σ:Own}
theorem Beq {l:List Int} {vl:Value} (rl:Val ρ vl l) (hne:l ≠ []) (hlm:l.length ≤ 1000000):CallsH (CX mn X) 165 #[vl] ρ σ (fun w ρ' σ'=>Ro.le ρ ρ'∧∃ gr,Grow ρ' 3 w l gr∧σ' = gr ++ σ):=by
 have hl60:=Bro rl
 refine Bh (n:=8) (args:=[vl]) [2] Tryz.func165 rfl rfl rfl rfl fun Q hret hnor=>w_q rfl rfl fun K1 k1=>Bma (nS) (Ary rfl rfl k1 fun K2 K3 k2 k3=>Bmb vl ?_)
 obtain ⟨nn4a,nn4b,nn4c,nn4e⟩:=rl.nonnil hne
 refine l_v (Bad (a:=some nn4a) (n:=nn4b) (k:=nn4c) Bnb ((show Af _ _ = vl from rfl).trans nn4e) rfl) (l_k k3 (Cg rfl rfl (Al (k2 _ _ _ _ ?_))))
 refine w_q rfl rfl fun K5 k5=>Arv (Bi (α:=Int) (xs:=[]) (vs:=[]) Bnb ty3 zr3 rfl (by decide) rfl trivial rfl (by decide) fun k6 cs6 R6=>?_)
 have G6:Grow ρ 3 (.slice (some ⟨k6,0,none⟩) 0 0) ([]:List Int) [(k6,oC cs6.toArray 3)]:=Bs R6 rfl (by decide)
 refine Bmb vl (Arv (Gc (σ:=σ) (gr:=[(k6,oC cs6.toArray 3)]) (xs:=([]:List Int)) (ys:=l) Bnb Bnb (Ab Bnc) rfl (Nat.le_of_ble_eq_true rfl) rfl rfl rfl rfl G6 rl (by first | omega | (simp only [List.nil_append]; omega) | (simp only [List.length_nil,Nat.zero_add]; omega)) fun v7 gr7 G7=>?_))
 refine Bma v7 (l_k k5 (Aq (hret _ _ _ (⟨Brm,gr7,Fy (by simp) G7,rfl⟩))))
theorem Bcp {d:Ditch} {k5 kw r:Nat} {c0 c1 c2 c3 c4 c5 c6 c7 c8 c9 c10 c11 c12 c13 c14 c15 c16 c17 c18 c19 c20 c21 c22 c23 c24 c25 c26 us:Value} {L:Oth} {og:Own} {n:Int} (ok:DitchOk d) (rus:Val ρ us (Asj d)) (hO:OthG ρ r L og):CallsH (CX mn X) 164 #[(iV (n)),(.pointer (some ⟨k5,0,none⟩))] ρ (((k5,oC #[(.pointer (some ⟨kw,0,none⟩))] 244) :: ((kw,oC #[c0,c1,c2,c3,c4,c5,c6,c7,c8,c9,c10,c11,c12,c13,c14,c15,c16,c17,c18,c19,c20,c21,c22,c23,c24,c25,c26,us,(.map (some r))] 294) :: (og ++ σ)))) (fun w ρ' σ'=>Ro.le ρ ρ'∧∃ gr h,Grow ρ' 3 w (atO (Aty d L n) n) gr∧OthH ρ' r (Aty d L n) n w h∧σ' = (k5,oC #[(.pointer (some ⟨kw,0,none⟩))] 244) :: (kw,oC #[c0,c1,c2,c3,c4,c5,c6,c7,c8,c9,c10,c11,c12,c13,c14,c15,c16,c17,c18,c19,c20,c21,c22,c23,c24,c25,c26,us,(.map (some r))] 294) :: (gr ++ (h ++ σ))):=by
 obtain ⟨es,ck,E,hM,rfl,hG,rfl⟩:=hO
 replace hG:OGrow ρ E:=hG
 refine Bh (n:=27) (args:=[(iV (n)),(.pointer (some ⟨k5,0,none⟩))]) [3] Tryz.func164 rfl rfl rfl rfl fun Q hret hnor=>w_q rfl rfl fun K1 k1=>Bma (nS) (Ary rfl rfl k1 fun K2 K3 k2 k3=>Arv (Dt (i:=0) (v:=(.pointer (some ⟨kw,0,none⟩))) ⟨_,Bon,rfl⟩ rfl rfl rfl ?_))
 refine l_v (Ck rfl) (l_v (Cb Bnh rfl rfl ⟨_,Ab Bpq,rfl⟩ (by decide) rfl rfl) (Arv (Dt (i:=1) (v:=(.map (some r))) ⟨_,Bor,rfl⟩ rfl rfl rfl ?_)))
 refine Bmb (iV (n)) (Arv (Aws (c:=n) Bor Bne Bln hM rfl rfl (.inr (List.mem_cons_of_mem _ (List.mem_cons_of_mem _ (List.mem_cons_self ..)))) ?_))
 rcases hf4:Atr n E 0 with _ | q4
 ·rw [Bcg hf4]
  refine l_v (Bad (a:=none) (n:=0) (k:=0) Bnb rfl rfl) (l_k k3 (Co rfl rfl (Awj (((k5,oC #[(.pointer (some ⟨kw,0,none⟩))] 244) :: ((kw,oC #[c0,c1,c2,c3,c4,c5,c6,c7,c8,c9,c10,c11,c12,c13,c14,c15,c16,c17,c18,c19,c20,c21,c22,c23,c24,c25,c26,us,(.map (some r))] 294) :: []))) [0,1,2,3,4,5,6,7,8,9] (by kernel_rfl) rfl rfl (Bmk 0 Bbf rfl ⟨Brm,sB⟩ rfl (Atf (v:=(.pointer (some ⟨kw,0,none⟩))) ⟨_,Bon,rfl⟩ rfl (List.mem_cons_self ..) rfl) (Bmk 1 Bbg rfl ⟨Brm,sB⟩ rfl (Yld.o (Ck rfl)) (Bmk 2 Bbh rfl ⟨Brm,sB⟩ rfl (Yld.o (Cb Bnh rfl rfl ⟨_,Ab Bpq,rfl⟩ (by decide) rfl rfl)) (Bmk 3 Bbi rfl ⟨Brm,sB⟩ rfl (Atf (v:=(.map (some r))) ⟨_,Bor,rfl⟩ rfl (List.mem_cons_of_mem _ (List.mem_cons_self ..)) rfl) (Bmk 4 Bbj rfl ⟨Brm,sB⟩ rfl (Yld.o (Ah (v:=(iV (n))) rfl)) (Bml 5 Arg rfl ⟨Brm,sB⟩ rfl (Atf (v:=(.pointer (some ⟨kw,0,none⟩))) ⟨_,Bon,rfl⟩ rfl (List.mem_cons_self ..) rfl) ⟨Brm,sB⟩ (Bml 6 zZ2 rfl ⟨Brm,sB⟩ rfl (Yld.o (Ck rfl)) ⟨Brm,sB⟩ (Bml 7 zZ3 rfl ⟨Brm,sB⟩ rfl (Yld.o (Cb Bnh rfl rfl ⟨_,Ab Bop,rfl⟩ (by decide) rfl rfl)) ⟨Brm,sB⟩ (Bml 8 zZ4 rfl ⟨Brm,sB⟩ rfl (Atf (v:=us) ⟨_,Bnb,rfl⟩ rfl (List.mem_cons_of_mem _ (List.mem_cons_self ..)) rfl) ⟨Brm,sB⟩ (Bmn 9 zZ5 rfl rfl (Cm (vs:=[us]) (Beq rus (Bbd ok) (by have:=(Asx ok).1; have:=ok.turns; omega)) Tryz.func165 rfl rfl ⟨rfl,trivial⟩ fun w5 ρ5 σ5 hc5=>?_))))))))))))))
  obtain ⟨l5,gr5,G5,hs5⟩:=hc5
  subst hs5
  replace hG:=OGrow.mono l5 hG
  refine ⟨⟨l5,sB⟩,?_⟩
  refine Axn ((p_a ((p_c Arz).trans Arz)).trans Asd) ?_
  obtain ⟨hM6,hv6,hGr6,hH6⟩:=Bhq (r:=r) hM hG hf4 G5 (Bbd ok)
  refine Bmm 10 zZ6 rfl rfl (Bkl (i:=0) (c:=n) (w:=w5) Bor Bne hM hf4 rfl rfl rfl rfl ?_)
  refine Bat rfl (k2 _ _ _ _ ?_)
  refine w_q rfl rfl fun K7 k7=>Arv (Gu (v:=(.pointer (some ⟨kw,0,none⟩))) ⟨_,Bon,rfl⟩ rfl (List.mem_cons_of_mem _ (List.mem_append_right _ (List.mem_cons_self ..))) rfl ?_)
  refine l_v (Ck rfl) (l_v (Cb Bnh rfl rfl ⟨_,Ab Bpq,rfl⟩ (by decide) rfl rfl) (Arv (Gu (v:=(.map (some r))) ⟨_,Bor,rfl⟩ rfl (List.mem_cons_of_mem _ (List.mem_append_right _ (List.mem_cons_of_mem _ (List.mem_cons_self ..)))) rfl ?_)))
  refine Bmb (iV (n)) (Arv (Aws (c:=n) Bor Bne Bln hM6 rfl rfl (.inr (List.mem_cons_self ..)) ?_))
  rw [hv6]
  refine Bma w5 (l_k k7 (Aj (Brk Asw) (Aj (Brk ((p_a ((p_c Arz).trans Arz)).trans Asd)) (Aj (Brk ((p_c ((p_a Arz).trans Asd)).trans Arz)) (Aq (hret _ _ _ (⟨l5,gr5,_,hGr6,hH6,rfl⟩)))))))
 obtain ⟨gr4,h4,hp4,hGr4,hH4,a4,m4,k4,hv4⟩:=Bhr (d:=d) (r:=r) hM hG hf4
 refine l_v (Bad (a:=some a4) (n:=m4) (k:=k4) Bnb ((show Af _ _ = (Aur E n) from rfl).trans hv4) rfl) (l_k k3 (Cg rfl rfl (Al (k2 _ _ _ _ ?_))))
 refine w_q rfl rfl fun K8 k8=>Arv (Dt (i:=0) (v:=(.pointer (some ⟨kw,0,none⟩))) ⟨_,Bon,rfl⟩ rfl rfl rfl ?_)
 refine l_v (Ck rfl) (l_v (Cb Bnh rfl rfl ⟨_,Ab Bpq,rfl⟩ (by decide) rfl rfl) (Arv (Dt (i:=1) (v:=(.map (some r))) ⟨_,Bor,rfl⟩ rfl rfl rfl ?_)))
 refine Bmb (iV (n)) (Arv (Aws (c:=n) Bor Bne Bln hM rfl rfl (.inr (List.mem_cons_of_mem _ (List.mem_cons_of_mem _ (List.mem_cons_self ..)))) ?_))
 refine Bma (Aur E n) (l_k k8 (Aj (σ':=((k5,oC #[(.pointer (some ⟨kw,0,none⟩))] 244) :: ((kw,oC #[c0,c1,c2,c3,c4,c5,c6,c7,c8,c9,c10,c11,c12,c13,c14,c15,c16,c17,c18,c19,c20,c21,c22,c23,c24,c25,c26,us,(.map (some r))] 294) :: (gr4 ++ (h4 ++ σ))))) (Brk (List.Perm.cons _ (List.Perm.cons _ (by have h9:=hp4.append_right σ; rw [List.append_assoc] at h9; exact h9)))) (Aq (hret _ _ _ (⟨Brm,gr4,h4,hGr4,hH4,rfl⟩)))))
set_option maxHeartbeats 2000000 in
theorem Bcr {d:Ditch} {vd:Value} (hg:GlobT ρ) (rd:Val ρ vd d) (ok:DitchOk d):CallsH (CX mn X) 129 #[vd] ρ σ (fun w ρ' σ'=>Ro.le ρ ρ'∧σ' = σ∧∃ v,w = (.tuple #[v,z0])∧WaterAt ρ' v d):=by
 have okt:=ok.turns
 have oks:=ok.nswaps
 have oko:=ok.nloans
 refine Bh (n:=111) (args:=[vd]) [2,3] Tryz.func129 rfl rfl rfl rfl fun Q hret hnor=>w_q rfl rfl fun K1 k1=>Arv (Eb (v:=vd) rfl fun k2=>?_)
 refine Bb (a:=d) rd fun ρ2 l2 r2=>?_
 replace hg:=GlobT.mono l2 hg
 refine Bma (.pointer none) (Bma (iV (0)) (Ary rfl rfl k1 fun K3 K4 k3 k4=>Arw (Ax Asi rfl r2) fun v5 r5=>Arv (Bm (Axz hg r5 ok) Tryz.func163 rfl rfl ⟨rfl,trivial⟩ ?_)))
 refine Bma (iV (0)) (Arx rfl rfl k4 fun K6 k6=>Bmb (iV (0)) (l_v (Dg rfl rfl) (l_k k6 (Cg rfl rfl (Al (k3 _ _ _ _ ?_))))))
 refine w_q rfl rfl fun K7 k7=>Arw (Ax Asi rfl r2) fun v8 r8=>?_
 obtain ⟨c9_0,c9_1,c9_2,c9_3,c9_4,c9_5,e9_,i9_1,i9_2,⟨i9_3a,i9_3b⟩,⟨i9_4a,i9_4b⟩,⟨i9_5a,i9_5b⟩,⟨i9_6a,i9_6b⟩,i9_7,i9_8,i9_9,⟨i9_10a,i9_10b⟩,⟨i9_11a,i9_11b⟩,⟨i9_12a,i9_12b⟩,⟨i9_13a,i9_13b⟩,i9_14⟩:=Ditch.open_ r8
 have e9_c:v8.cells = [c9_0,c9_1,(iV (d.begin_)),(iV (d.week)),(iV (d.restFrom)),(iV (d.restLong)),c9_2,c9_3,c9_4,(iV (d.flow.low)),(iV (d.flow.high)),(iV (d.loss.low)),(iV (d.loss.high)),c9_5].toArray:=by rw [e9_]; rfl
 have hdc10:Val ρ2 (.agg #[c9_0,c9_1,(iV (d.begin_)),(iV (d.week)),(iV (d.restFrom)),(iV (d.restLong)),c9_2,c9_3,c9_4,(iV (d.flow.low)),(iV (d.flow.high)),(iV (d.loss.low)),(iV (d.loss.high)),c9_5]) d:=(e9_ ▸ r8)
 refine l_v (Aus rfl r8) (Arv (Oh fun k11=>?_))
 have HO11:OthG ρ2 k11 [] [(k11,Res.obj (.map #[] 0))]:=Bfn
 refine l_v (Dn (ns:=[14,12,1,1,1]) (vs:=[(0,v8),(4,(.map (some k11)))]) (zc:=Blf) (cs:=[c9_0,c9_1,(iV (d.begin_)),(iV (d.week)),(iV (d.restFrom)),(iV (d.restLong)),c9_2,c9_3,c9_4,(iV (d.flow.low)),(iV (d.flow.high)),(iV (d.loss.low)),(iV (d.loss.high)),c9_5,(iV (0)),(iV (0)),(iV (0)),(iV (0)),(iV (0)),(iV (0)),(iV (0)),(iV (0)),(iV (0)),(iV (0)),(iV (0)),(iV (0)),(iV (0)),(nS),(.map (some k11))]) Bnh Bll rfl ⟨⟨_,Ab Brb,rfl⟩,⟨_,Ab Brc,rfl⟩,⟨_,Ab Bnc,rfl⟩,⟨_,Ab Bop,rfl⟩,⟨_,Ab Bpq,rfl⟩,trivial⟩ (EvB.map ⟨⟨rfl,rfl⟩,⟨rfl,rfl⟩,trivial⟩) ((Be (cs:=[c9_0,c9_1,(iV (d.begin_)),(iV (d.week)),(iV (d.restFrom)),(iV (d.restLong)),c9_2,c9_3,c9_4,(iV (d.flow.low)),(iV (d.flow.high)),(iV (d.loss.low)),(iV (d.loss.high)),c9_5]) e9_c rfl (Nat.le_of_ble_eq_true rfl)).trans ((Be (cs:=[(.map (some k11))]) rfl rfl (Nat.le_of_ble_eq_true rfl)).trans rfl))) (Arv (Eb (v:=(.agg #[c9_0,c9_1,(iV (d.begin_)),(iV (d.week)),(iV (d.restFrom)),(iV (d.restLong)),c9_2,c9_3,c9_4,(iV (d.flow.low)),(iV (d.flow.high)),(iV (d.loss.low)),(iV (d.loss.high)),c9_5,(iV (0)),(iV (0)),(iV (0)),(iV (0)),(iV (0)),(iV (0)),(iV (0)),(iV (0)),(iV (0)),(iV (0)),(iV (0)),(iV (0)),(iV (0)),(nS),(.map (some k11))])) rfl fun k12=>?_))
 refine Arv (Ct Blj fun k13=>?_)
 refine Cx rfl (Cz (j:=0) (v:=(.pointer (some ⟨k12,0,none⟩))) ⟨_,Ab Tryz.typeInfo244,rfl⟩ rfl rfl rfl rfl (Nat.le_of_ble_eq_true rfl) ?_)
 refine Ary rfl rfl k7 fun K14 K15 k14 k15=>Arw (Ay Ditch.f_turns Bna rfl rfl Atj (by decide) rfl r2) fun v16 r16=>Arw (Ax Atj rfl r16) fun v17 r17=>?_
 have g18:=Bro r17
 refine l_v (Ci (el:=241) Bod rfl r17) (Bmb (iV (0)) (l_k k15 (Ao (Cc (fun mm ee dd ρ' σ'=>∃ (i:Nat) (lo:Int) (ov19_9001c27:Value) (og19_9001c27:Own),(d.turns.length - i) = mm∧[] = dd∧Ro.le ρ2 ρ'∧(og19_9001c27 ++ ((k13,oC #[(.pointer (some ⟨k12,0,none⟩))] 244) :: ((k12,oC #[c9_0,c9_1,(iV (d.begin_)),(iV (d.week)),(iV (d.restFrom)),(iV (d.restLong)),c9_2,c9_3,c9_4,(iV (d.flow.low)),(iV (d.flow.high)),(iV (d.loss.low)),(iV (d.loss.high)),c9_5,(iV ((Asf d i 0))),(iV ((Asf d i 1))),(iV ((Asf d i 2))),(iV ((Asf d i 3))),(iV ((Asf d i 4))),(iV ((Asf d i 5))),(iV ((Asf d i 6))),(iV ((Asf d i 7))),(iV ((Asf d i 8))),(iV ((Asf d i 9))),(iV ((Asf d i 10))),(iV ((Asf d i 11))),(iV (lo)),ov19_9001c27,(.map (some k11))] 294) :: ([(k11,Res.obj (.map #[] 0))] ++ σ)))) = σ'∧ee 1 = (.pointer (some ⟨k2,0,none⟩))∧ee 5 = (.pointer (some ⟨k13,0,none⟩))∧ee 25 = v17∧ee 26 = (iV (((d.turns.length:Nat):Int)))∧ee 27 = (iV ((i:Int)))∧(i ≤ d.turns.length)∧(lo = Atv d i)∧Grow ρ' 3 ov19_9001c27 (((d.turns.take i).map (fun x:WTurn=>x.holder))) og19_9001c27∧True) (m:=_) ⟨0,0,(nS),[],rfl,rfl,Brm,rfl,rfl,rfl,rfl,rfl,rfl,(Nat.zero_le _),endI_0.symm,(Fy (by simp) Hm),trivial⟩ ?_))))
 rintro m19 e19 _ ρ19 _ ⟨i,lo,ov19_9001c27,og19_9001c27,rfl,rfl,l19,rfl,h19_1,h19_5,h19_25,h19_26,h19_27,p19_0,p19_1,OG19_9001c27,_⟩
 replace r2:=At.mono l19 r2
 replace hdc10:=Brp l19 hdc10
 replace HO11:=OthG.mono l19 HO11
 replace r17:=Brp l19 r17
 refine w_q rfl rfl fun K20 k20=>l_v (Da h19_27 h19_26) (Asa k20 fun K21 k21=>Up (t:=decide ((i:Int) < ((d.turns.length:Nat):Int))) rfl (fun b22=>?_) (fun b22=>?_))
 ·have q22:=of_decide_eq_true b22
  refine Al (k21 _ _ _ _ ?_)
  refine Ai fun K23 k23=>Ao (w_q rfl rfl fun K24 k24=>l_v (Ah (v:=(iV ((i:Int)))) h19_27) ?_)
  obtain ⟨a26,ha26⟩:=Ed (xs:=d.turns) (i:=i) (by first | omega | (simp only [List.length_set]; omega))
  have tfa26:=ok.turn _ _ ha26
  have eba26:=Atw ok (i:=i) (by omega)
  have esa26:=Avv ha26
  have eca26:=Avu ok (i:=i) (by omega)
  refine Arw (Ch i Bod Avp h19_25 r17 (q:=(i:Int)) h19_27 rfl ha26) fun v25 r25=>Arw (Ax Avp rfl r25) fun v27 r27=>Arv (Ct Bhh fun k28=>?_)
  refine Bma (iV ((i:Int))) (Cx rfl (Dv (v:=v27) (a:=a26) (c:=Bhe) Avp rfl rfl r27 rfl ?_))
  refine Bb (a:=a26) r27 fun ρ29 l29 r29=>?_
  replace OG19_9001c27:=Brl l29 OG19_9001c27
  refine Asa k24 fun K30 k30=>Awj (((k13,oC #[(.pointer (some ⟨k12,0,none⟩))] 244) :: ((k12,oC #[c9_0,c9_1,(iV (d.begin_)),(iV (d.week)),(iV (d.restFrom)),(iV (d.restLong)),c9_2,c9_3,c9_4,(iV (d.flow.low)),(iV (d.flow.high)),(iV (d.loss.low)),(iV (d.loss.high)),c9_5,(iV ((Asf d i 0))),(iV ((Asf d i 1))),(iV ((Asf d i 2))),(iV ((Asf d i 3))),(iV ((Asf d i 4))),(iV ((Asf d i 5))),(iV ((Asf d i 6))),(iV ((Asf d i 7))),(iV ((Asf d i 8))),(iV ((Asf d i 9))),(iV ((Asf d i 10))),(iV ((Asf d i 11))),(iV (lo)),ov19_9001c27,(.map (some k11))] 294) :: []))) [0,1,2,3,4,5,6,8] (by kernel_rfl) rfl rfl (Bmk 0 Ajz rfl ⟨Brm,sB⟩ rfl (Atf (v:=(.pointer (some ⟨k12,0,none⟩))) ⟨_,Bon,rfl⟩ h19_5 (List.mem_cons_self ..) rfl) (Bmk 1 Aka rfl ⟨Brm,sB⟩ rfl (Yld.o (Ck rfl)) (Bmk 2 Akb rfl ⟨Brm,sB⟩ rfl (Yld.o (Cb Bnh rfl rfl ⟨_,Ab Bnc,rfl⟩ (by decide) rfl rfl)) (Bmk 3 Bbk rfl ⟨Brm,sB⟩ rfl (Atf (v:=(iV (lo))) ⟨_,Bne,rfl⟩ rfl (List.mem_cons_of_mem _ (List.mem_cons_self ..)) rfl) (Bmp 4 Bbl rfl ⟨Brm,sB⟩ rfl (Axx (Ay WTurn.f_hours Boq rfl rfl ty3 (by decide) rfl r29)) ⟨Brm,sB⟩ fun v31 r31=>?_)))))
  have ⟨g32a,g32b⟩:=Brh r31
  refine Bml 5 Bdl rfl ⟨Brm,sB⟩ rfl (Yld.o (Bc ty3 rfl r31)) ⟨Brm,sB⟩ (Bml 6 Arf rfl ⟨Brm,sB⟩ rfl (Yld.o (Br rfl rfl (z:=(lo + a26.hours)) (Bo (by rfl) (by omega) (by omega)))) ⟨Brm,sB⟩ (Bml 7 Amg rfl ⟨Brm,sB⟩ rfl (Yld.o (Ck rfl)) ⟨Brm,sB⟩ (Bml 8 Anr rfl ⟨Brm,sB⟩ rfl (Yld.o (Cb Bnh rfl rfl ⟨_,Ab Bnc,rfl⟩ (by decide) rfl rfl)) ⟨Brm,sB⟩ (Axn ((p_a Arz).trans Asd) (Bmm 9 Ans rfl rfl (Cz (j:=0) (v:=(iV ((lo + a26.hours)))) ⟨_,Ab Bnc,rfl⟩ rfl rfl rfl rfl (Nat.le_of_ble_eq_true rfl) ?_))))))
  refine Bat rfl (k30 _ _ _ _ ?_)
  refine Ai fun K33 k33=>Awj (((k12,oC #[c9_0,c9_1,(iV (d.begin_)),(iV (d.week)),(iV (d.restFrom)),(iV (d.restLong)),c9_2,c9_3,c9_4,(iV (d.flow.low)),(iV (d.flow.high)),(iV (d.loss.low)),(iV (d.loss.high)),c9_5,(iV ((Asf d i 0))),(iV ((Asf d i 1))),(iV ((Asf d i 2))),(iV ((Asf d i 3))),(iV ((Asf d i 4))),(iV ((Asf d i 5))),(iV ((Asf d i 6))),(iV ((Asf d i 7))),(iV ((Asf d i 8))),(iV ((Asf d i 9))),(iV ((Asf d i 10))),(iV ((Asf d i 11))),(iV ((lo + a26.hours))),ov19_9001c27,(.map (some k11))] 294) :: ((k13,oC #[(.pointer (some ⟨k12,0,none⟩))] 244) :: []))) [0,1,2,3,4,5,8] (by kernel_rfl) rfl rfl (Bmk 0 Ajz rfl ⟨Brm,sB⟩ rfl (Atf (v:=(.pointer (some ⟨k12,0,none⟩))) ⟨_,Bon,rfl⟩ h19_5 (List.mem_cons_of_mem _ (List.mem_cons_self ..)) rfl) (Bmk 1 Aka rfl ⟨Brm,sB⟩ rfl (Yld.o (Ah (v:=(iV ((i:Int)))) rfl)) (Bmk 2 Akb rfl ⟨Brm,sB⟩ rfl (Atf (v:=(.pointer (some ⟨k12,0,none⟩))) ⟨_,Bon,rfl⟩ h19_5 (List.mem_cons_of_mem _ (List.mem_cons_self ..)) rfl) (Bmk 3 Bbk rfl ⟨Brm,sB⟩ rfl (Yld.o (Ck rfl)) (Bmk 4 Bbl rfl ⟨Brm,sB⟩ rfl (Yld.o (Cb Bnh rfl rfl ⟨_,Ab Bnc,rfl⟩ (by decide) rfl rfl)) (Bmk 5 Bdl rfl ⟨Brm,sB⟩ rfl (Atf (v:=(iV ((lo + a26.hours)))) ⟨_,Bne,rfl⟩ rfl (List.mem_cons_self ..) rfl) (Bml 6 Arf rfl ⟨Brm,sB⟩ rfl (Yld.o (Ck rfl)) ⟨Brm,sB⟩ (Bml 7 Amg rfl ⟨Brm,sB⟩ rfl (Yld.o (Cb Bnh rfl rfl ⟨_,Ab Brc,rfl⟩ (by decide) rfl rfl)) ⟨Brm,sB⟩ (Bml 8 Anr rfl ⟨Brm,sB⟩ rfl (Yld.o (Cq (k':=1) (i) Bpt ⟨_,Ab Bnc,rfl⟩ rfl (q:=(i:Int)) rfl rfl (by omega) (off':=14 + i) (by show 14 + i * 1 = 14 + i; omega))) ⟨Brm,sB⟩ (Bmm 9 Ans rfl rfl (Bgb (j:=0) (v:=(iV ((lo + a26.hours)))) (c':=[c9_0,c9_1,(iV (d.begin_)),(iV (d.week)),(iV (d.restFrom)),(iV (d.restLong)),c9_2,c9_3,c9_4,(iV (d.flow.low)),(iV (d.flow.high)),(iV (d.loss.low)),(iV (d.loss.high)),c9_5,(iV ((Asf d (i + 1) 0))),(iV ((Asf d (i + 1) 1))),(iV ((Asf d (i + 1) 2))),(iV ((Asf d (i + 1) 3))),(iV ((Asf d (i + 1) 4))),(iV ((Asf d (i + 1) 5))),(iV ((Asf d (i + 1) 6))),(iV ((Asf d (i + 1) 7))),(iV ((Asf d (i + 1) 8))),(iV ((Asf d (i + 1) 9))),(iV ((Asf d (i + 1) 10))),(iV ((Asf d (i + 1) 11))),(iV ((lo + a26.hours))),ov19_9001c27,(.map (some k11))]) ((Bfb (i:=i) (by omega) (by rw [Avv ha26]; omega))) ⟨_,Ab Bnc,rfl⟩ rfl rfl rfl rfl (by simp only [List.length_cons,List.length_nil]; omega) ?_)))))))))))
  refine Bat rfl (k33 _ _ _ _ ?_)
  refine Awj (((k12,oC #[c9_0,c9_1,(iV (d.begin_)),(iV (d.week)),(iV (d.restFrom)),(iV (d.restLong)),c9_2,c9_3,c9_4,(iV (d.flow.low)),(iV (d.flow.high)),(iV (d.loss.low)),(iV (d.loss.high)),c9_5,(iV ((Asf d (i + 1) 0))),(iV ((Asf d (i + 1) 1))),(iV ((Asf d (i + 1) 2))),(iV ((Asf d (i + 1) 3))),(iV ((Asf d (i + 1) 4))),(iV ((Asf d (i + 1) 5))),(iV ((Asf d (i + 1) 6))),(iV ((Asf d (i + 1) 7))),(iV ((Asf d (i + 1) 8))),(iV ((Asf d (i + 1) 9))),(iV ((Asf d (i + 1) 10))),(iV ((Asf d (i + 1) 11))),(iV ((lo + a26.hours))),ov19_9001c27,(.map (some k11))] 294) :: ((k13,oC #[(.pointer (some ⟨k12,0,none⟩))] 244) :: []))) [0,1,2,3,4,5,6,7,8,10] (by kernel_rfl) rfl rfl (Bmk 0 Bgo rfl ⟨Brm,sB⟩ rfl (Atf (v:=(.pointer (some ⟨k12,0,none⟩))) ⟨_,Bon,rfl⟩ h19_5 (List.mem_cons_of_mem _ (List.mem_cons_self ..)) rfl) (Bmk 1 Bgp rfl ⟨Brm,sB⟩ rfl (Atf (v:=(.pointer (some ⟨k12,0,none⟩))) ⟨_,Bon,rfl⟩ h19_5 (List.mem_cons_of_mem _ (List.mem_cons_self ..)) rfl) (Bmk 2 Bgq rfl ⟨Brm,sB⟩ rfl (Yld.o (Ck rfl)) (Bmk 3 Bgr rfl ⟨Brm,sB⟩ rfl (Yld.o (Cb Bnh rfl rfl ⟨_,Ab Bop,rfl⟩ (by decide) rfl rfl)) (Bmk 4 Bgs rfl ⟨Brm,sB⟩ rfl (Atf (v:=ov19_9001c27) ⟨_,Bnb,rfl⟩ rfl (List.mem_cons_self ..) rfl) (Bmp 5 Bgt rfl ⟨Brm,sB⟩ rfl (Axx (Ay WTurn.f_holder Boq rfl rfl ty3 (by decide) rfl r29)) ⟨Brm,sB⟩ fun v34 r34=>?_))))))
  have ⟨g35a,g35b⟩:=Brh r34
  refine Bml 6 Bgu rfl ⟨Brm,sB⟩ rfl (Yld.o (Bc ty3 rfl r34)) ⟨Brm,sB⟩ (Bmn 7 Bdk rfl rfl (Bi (α:=Int) (xs:=[a26.holder]) (vs:=[(iV (a26.holder))]) Bnb ty3 zr3 rfl (by decide) (Dk (os:=[.tmp 56]) ⟨rfl,trivial⟩) ⟨(Cv.2 ⟨rfl,by constructor <;> omega⟩),trivial⟩ rfl (by decide) fun k36 cs36 R36=>⟨⟨Brm,sB⟩,?_⟩))
  have G36:Grow ρ29 3 (.slice (some ⟨k36,0,none⟩) 1 1) ([a26.holder]:List Int) [(k36,oC cs36.toArray 3)]:=Bs R36 rfl (by decide)
  refine Ayu G36 sB fun ρ38 l38 r38=>?_
  replace OG19_9001c27:=Brl l38 OG19_9001c27
  refine Axn Asw (Bmn 8 Aou rfl rfl (Gc (σ:=((k12,oC #[c9_0,c9_1,(iV (d.begin_)),(iV (d.week)),(iV (d.restFrom)),(iV (d.restLong)),c9_2,c9_3,c9_4,(iV (d.flow.low)),(iV (d.flow.high)),(iV (d.loss.low)),(iV (d.loss.high)),c9_5,(iV ((Asf d (i + 1) 0))),(iV ((Asf d (i + 1) 1))),(iV ((Asf d (i + 1) 2))),(iV ((Asf d (i + 1) 3))),(iV ((Asf d (i + 1) 4))),(iV ((Asf d (i + 1) 5))),(iV ((Asf d (i + 1) 6))),(iV ((Asf d (i + 1) 7))),(iV ((Asf d (i + 1) 8))),(iV ((Asf d (i + 1) 9))),(iV ((Asf d (i + 1) 10))),(iV ((Asf d (i + 1) 11))),(iV ((lo + a26.hours))),ov19_9001c27,(.map (some k11))] 294) :: ((k13,oC #[(.pointer (some ⟨k12,0,none⟩))] 244) :: ([(k11,Res.obj (.map #[] 0))] ++ σ)))) (gr:=og19_9001c27) (xs:=((d.turns.take i).map (fun x:WTurn=>x.holder))) (ys:=([a26.holder]:List Int)) Bnb Bnb (Ab Bnc) rfl (Nat.le_of_ble_eq_true rfl) rfl rfl rfl rfl OG19_9001c27 r38 (by simp only [List.length_append,List.length_cons,List.length_nil,List.length_map,List.length_take] at *; omega) fun v37 gr37 G37=>⟨⟨l38,sB⟩,?_⟩))
  refine Bml 9 Are rfl ⟨l38,sB⟩ rfl (Yld.o (Ck rfl)) ⟨Brm,sB⟩ (Bml 10 zZ0 rfl ⟨l38,sB⟩ rfl (Yld.o (Cb Bnh rfl rfl ⟨_,Ab Bop,rfl⟩ (by decide) rfl rfl)) ⟨Brm,sB⟩ (Axn Asd (Bmm 11 zZ1 rfl rfl (Cz (j:=0) (v:=v37) ⟨_,Ab Bop,rfl⟩ rfl rfl (Grow.single G37) rfl (Nat.le_of_ble_eq_true rfl) ?_))))
  refine Bat rfl (k23 _ _ _ _ ?_)
  refine Ag rfl rfl (l_v (Br h19_27 rfl (z:=(((i + 1):Nat):Int)) wrE) (Bmb (iV ((((i + 1):Nat):Int))) (Bj (Brk ((p_c ((p_a Arz).trans Asd)).trans Arz)) (Bj (Brk Arz) (Bj (Brk ((p_c ((p_c Asd).trans Arz)).trans Arz)) (Bj (Brk ((p_c ((p_c Asw).trans Asw)).trans Asw)) (Ac ?_)))))))
  refine ⟨_,?_,((i + 1)),((lo + a26.hours)),v37,gr37,rfl,rfl,(Brn (Brn l19 l29) l38),rfl,h19_1,h19_5,h19_25,h19_26,rfl,(by omega),(by rw [Avv ha26]; omega),(Fy (by rw [Tw ha26]) G37),trivial⟩
  omega
 have q22:=of_decide_eq_false b22
 refine Bx (k14 _ _ _ _ ?_)
 refine w_q rfl rfl fun K39 k39=>l_v (Il (fn:=.func 164) (caps:=[.tmp 5]) (vs:=[(.pointer (some ⟨k13,0,none⟩))]) ⟨h19_5,trivial⟩) (Bma (.func (.func 164) #[] #[(.pointer (some ⟨k13,0,none⟩))]) (Asa k39 fun K40 k40=>Ai fun K41 k41=>Hc OG19_9001c27 fun ρ42 l42 r42=>?_))
 replace r2:=At.mono l42 r2
 replace hdc10:=Brp l42 hdc10
 replace HO11:=OthG.mono l42 HO11
 replace r42:Val ρ42 ov19_9001c27 (Asj d):=Val.cast (by rw [show i = d.turns.length by omega,List.take_length]; rfl) r42
 refine Ag rfl rfl (Arw (Ay Ditch.f_swaps Bna rfl rfl Atq (by decide) h19_1 r2) fun v43 r43=>Arw (Ax Atq rfl r43) fun v44 r44=>?_)
 have g45:=Bro r44
 refine l_v (Ci (el:=243) Boi rfl r44) (Bmb (iV (0)) (l_k k41 (Ao (Cc (fun mm ee dd ρ' σ'=>∃ (k:Nat) (oo46:Own),(d.swaps.length - k) = mm∧[] = dd∧Ro.le ρ42 ρ'∧((k13,oC #[(.pointer (some ⟨k12,0,none⟩))] 244) :: ((k12,oC #[c9_0,c9_1,(iV (d.begin_)),(iV (d.week)),(iV (d.restFrom)),(iV (d.restLong)),c9_2,c9_3,c9_4,(iV (d.flow.low)),(iV (d.flow.high)),(iV (d.loss.low)),(iV (d.loss.high)),c9_5,(iV ((Asf d i 0))),(iV ((Asf d i 1))),(iV ((Asf d i 2))),(iV ((Asf d i 3))),(iV ((Asf d i 4))),(iV ((Asf d i 5))),(iV ((Asf d i 6))),(iV ((Asf d i 7))),(iV ((Asf d i 8))),(iV ((Asf d i 9))),(iV ((Asf d i 10))),(iV ((Asf d i 11))),(iV (lo)),ov19_9001c27,(.map (some k11))] 294) :: (oo46 ++ σ))) = σ'∧ee 1 = (.pointer (some ⟨k2,0,none⟩))∧ee 5 = (.pointer (some ⟨k13,0,none⟩))∧ee 8 = (.func (.func 164) #[] #[(.pointer (some ⟨k13,0,none⟩))])∧ee 64 = v44∧ee 65 = (iV (((d.swaps.length:Nat):Int)))∧ee 66 = (iV ((k:Int)))∧(k ≤ d.swaps.length)∧OthG ρ' k11 ((Auf d k)) oo46∧True) (m:=_) ⟨0,[(k11,Res.obj (.map #[] 0))],rfl,rfl,Brm,rfl,h19_1,h19_5,rfl,rfl,rfl,rfl,(Nat.zero_le _),(Bau (rfl) HO11),trivial⟩ ?_))))
 rintro m46 e46 _ ρ46 _ ⟨k,oo46,rfl,rfl,l46,rfl,h46_1,h46_5,h46_8,h46_64,h46_65,h46_66,p46_0,HO46,_⟩
 replace r2:=At.mono l46 r2
 replace hdc10:=Brp l46 hdc10
 replace r42:=Brp l46 r42
 replace r44:=Brp l46 r44
 refine w_q rfl rfl fun K47 k47=>l_v (Da h46_66 h46_65) (Asa k47 fun K48 k48=>Up (t:=decide ((k:Int) < ((d.swaps.length:Nat):Int))) rfl (fun b49=>?_) (fun b49=>?_))
 ·have q49:=of_decide_eq_true b49
  refine Al (k48 _ _ _ _ ?_)
  refine Ai fun K50 k50=>Ao (w_q rfl rfl fun K51 k51=>?_)
  obtain ⟨a53,ha53⟩:=Ed (xs:=d.swaps) (i:=k) (by first | omega | (simp only [List.length_set]; omega))
  have sfa53:=ok.swap _ _ ha53
  refine Arw (Ch k Boi Avc h46_64 r44 (q:=(k:Int)) h46_66 rfl ha53) fun v52 r52=>Arw (Ax Avc rfl r52) fun v54 r54=>Arv (Ct Bhi fun k55=>?_)
  refine Cx rfl (Dv (v:=v54) (a:=a53) (c:=Bhf) Avc rfl rfl r54 rfl ?_)
  refine Bb (a:=a53) r54 fun ρ56 l56 r56=>?_
  replace r42:=Brp l56 r42
  replace HO46:=OthG.mono l56 HO46
  refine Arx rfl rfl k51 fun K57 k57=>l_v (Ah (v:=(.func (.func 164) #[] #[(.pointer (some ⟨k13,0,none⟩))])) h46_8) (Arw (Ay WSwap.f_cycle Bnx rfl rfl ty3 (by decide) rfl r56) fun v58 r58=>?_)
  have ⟨g59a,g59b⟩:=Brh r58
  refine l_v (Bc ty3 rfl r58) (Bj (Brk ((p_c Asw).trans Asw)) (Bj (Brk ((p_a Arz).trans Asd)) (Bj (Brk ((p_c Asd).trans Arz)) (Arv (Sq (vs:=[(iV (a53.cycle))]) (caps:=[(.pointer (some ⟨k13,0,none⟩))]) rfl (Bcp ok r42 HO46) Tryz.func164 rfl rfl ⟨rfl,trivial⟩ fun w60 ρ60 σ60 hc60=>?_)))))
  obtain ⟨l60,gr60,h60,G60,hH60,hs60⟩:=hc60
  subst hs60
  replace r56:=At.mono l60 r56
  have hlk60:=Bai (Axi ok (Axs ok (i:=k) (by omega)) (c:=a53.cycle) (by omega)) Awz
  have hln60:=hlk60.1
  refine Bma w60 (l_k k57 (Bmw (Bmq 0 [o1,o0,o0,o0,o0,o0,o0,o0,o0,o0,o0,o0,o0,o0,o0,o0,o0,o0,o0,o0] rfl (Ah (v:=w60) rfl) (Bms 1 [o1,o1,o0,o0,o0,o0,o0,o0,o0,o0,o0,o0,o0,o0,o0,o0,o0,o0,o0,o0] rfl (Ay WSwap.f_a Bnx rfl rfl ty3 (by decide) rfl r56) fun v61 r61=>?_))))
  have ⟨g62a,g62b⟩:=Brh r61
  refine Bmq 2 [o1,o1,o1,o0,o0,o0,o0,o0,o0,o0,o0,o0,o0,o0,o0,o0,o0,o0,o0,o0] rfl (Bc ty3 rfl r61) (Bmq 3 [o1,o1,o1,o1,o0,o0,o0,o0,o0,o0,o0,o0,o0,o0,o0,o0,o0,o0,o0,o0] rfl (Ah (v:=w60) rfl) (Bms 4 [o1,o1,o1,o1,o1,o0,o0,o0,o0,o0,o0,o0,o0,o0,o0,o0,o0,o0,o0,o0] rfl (Ay WSwap.f_b Bnx rfl rfl ty3 (by decide) rfl r56) fun v63 r63=>?_))
  have ⟨g64a,g64b⟩:=Brh r63
  refine Bmq 5 [o1,o1,o1,o1,o1,o1,o0,o0,o0,o0,o0,o0,o0,o0,o0,o0,o0,o0,o0,o0] rfl (Bc ty3 rfl r63) (Bmq 6 [o1,o1,o1,o1,o1,o1,o1,o0,o0,o0,o0,o0,o0,o0,o0,o0,o0,o0,o0,o0] rfl (Ah (v:=w60) rfl) (Bms 7 [o1,o1,o1,o1,o1,o1,o1,o1,o0,o0,o0,o0,o0,o0,o0,o0,o0,o0,o0,o0] rfl (Ay WSwap.f_b Bnx rfl rfl ty3 (by decide) rfl r56) fun v65 r65=>?_))
  have ⟨g66a,g66b⟩:=Brh r65
  refine Bmq 8 [o1,o1,o1,o1,o1,o1,o1,o1,o1,o0,o0,o0,o0,o0,o0,o0,o0,o0,o0,o0] rfl (Bc ty3 rfl r65) (Bmq 9 [o1,o1,o1,o1,o1,o1,o1,o1,o1,o1,o0,o0,o0,o0,o0,o0,o0,o0,o0,o0] rfl (Nw ((a53.b).toNat) Bnb ty3.info rfl G60 (q:=a53.b) rfl (by omega) (by first | omega | (simp only [List.length_set]; omega)) rfl) (Bmq 11 [o1,o1,o1,o1,o1,o1,o1,o1,o1,o1,o0,o1,o0,o0,o0,o0,o0,o0,o0,o0] rfl (Ah (v:=w60) rfl) (Bms 12 [o1,o1,o1,o1,o1,o1,o1,o1,o1,o1,o0,o1,o1,o0,o0,o0,o0,o0,o0,o0] rfl (Ay WSwap.f_a Bnx rfl rfl ty3 (by decide) rfl r56) fun v67 r67=>?_)))
  have ⟨g68a,g68b⟩:=Brh r67
  refine Bmq 13 [o1,o1,o1,o1,o1,o1,o1,o1,o1,o1,o0,o1,o1,o1,o0,o0,o0,o0,o0,o0] rfl (Bc ty3 rfl r67) (Bmq 14 [o1,o1,o1,o1,o1,o1,o1,o1,o1,o1,o0,o1,o1,o1,o1,o0,o0,o0,o0,o0] rfl (Nw ((a53.a).toNat) Bnb ty3.info rfl G60 (q:=a53.a) rfl (by omega) (by first | omega | (simp only [List.length_set]; omega)) rfl) (Acq (i:=10) (j:=15) [o1,o1,o1,o1,o1,o1,o1,o1,o1,o1,o1,o1,o1,o1,o1,o0,o0,o0,o0,o0] [o1,o1,o1,o1,o1,o1,o1,o1,o1,o1,o0,o1,o1,o1,o1,o1,o0,o0,o0,o0] rfl rfl (by kernel_rfl) rfl rfl rfl rfl ?_ ?_))
  ·obtain ⟨a70,ha70⟩:=Ed (xs:=(atO (Aty d ((Auf d k)) a53.cycle) a53.cycle)) (i:=(a53.b).toNat) (by omega)
   have ⟨g69a,g69b⟩:=Awh G60 ha70
   refine Bdg (A:=((k13,oC #[(.pointer (some ⟨k12,0,none⟩))] 244) :: ((k12,oC #[c9_0,c9_1,(iV (d.begin_)),(iV (d.week)),(iV (d.restFrom)),(iV (d.restLong)),c9_2,c9_3,c9_4,(iV (d.flow.low)),(iV (d.flow.high)),(iV (d.loss.low)),(iV (d.loss.high)),c9_5,(iV ((Asf d i 0))),(iV ((Asf d i 1))),(iV ((Asf d i 2))),(iV ((Asf d i 3))),(iV ((Asf d i 4))),(iV ((Asf d i 5))),(iV ((Asf d i 6))),(iV ((Asf d i 7))),(iV ((Asf d i 8))),(iV ((Asf d i 9))),(iV ((Asf d i 10))),(iV ((Asf d i 11))),(iV (lo)),ov19_9001c27,(.map (some k11))] 294) :: (gr60 ++ (h60 ++ σ))))) ⟨Brm,fun _ h=>h⟩ (Awp G60 (fun p hp=>(List.mem_cons_of_mem _ (List.mem_cons_of_mem _ (List.mem_append_left _ hp)))) ha70 ⟨_,Bne,rfl⟩ rfl rfl) ⟨Brm,?_⟩
   obtain ⟨a72,ha72⟩:=Ed (xs:=(atO (Aty d ((Auf d k)) a53.cycle) a53.cycle)) (i:=(a53.a).toNat) (by omega)
   have ⟨g71a,g71b⟩:=Awh G60 ha72
   refine Bmt 15 Biy rfl (Bdg (A:=((k13,oC #[(.pointer (some ⟨k12,0,none⟩))] 244) :: ((k12,oC #[c9_0,c9_1,(iV (d.begin_)),(iV (d.week)),(iV (d.restFrom)),(iV (d.restLong)),c9_2,c9_3,c9_4,(iV (d.flow.low)),(iV (d.flow.high)),(iV (d.loss.low)),(iV (d.loss.high)),c9_5,(iV ((Asf d i 0))),(iV ((Asf d i 1))),(iV ((Asf d i 2))),(iV ((Asf d i 3))),(iV ((Asf d i 4))),(iV ((Asf d i 5))),(iV ((Asf d i 6))),(iV ((Asf d i 7))),(iV ((Asf d i 8))),(iV ((Asf d i 9))),(iV ((Asf d i 10))),(iV ((Asf d i 11))),(iV (lo)),ov19_9001c27,(.map (some k11))] 294) :: (gr60 ++ (h60 ++ σ))))) ⟨Brm,fun _ h=>h⟩ (Awp G60 (fun p hp=>(List.mem_cons_of_mem _ (List.mem_cons_of_mem _ (List.mem_append_left _ hp)))) ha72 ⟨_,Bne,rfl⟩ rfl rfl) ⟨Brm,?_⟩)
   refine Bmr 16 Biz rfl (Nw ((a53.a).toNat) Bnb ty3.info rfl G60 (q:=a53.a) rfl (by omega) (by first | omega | (simp only [List.length_set]; omega)) rfl) (Ej (Brk ((p_c Asw).trans Asw)) id (Bmv 17 Bja rfl (Avq (σ:=((k13,oC #[(.pointer (some ⟨k12,0,none⟩))] 244) :: ((k12,oC #[c9_0,c9_1,(iV (d.begin_)),(iV (d.week)),(iV (d.restFrom)),(iV (d.restLong)),c9_2,c9_3,c9_4,(iV (d.flow.low)),(iV (d.flow.high)),(iV (d.loss.low)),(iV (d.loss.high)),c9_5,(iV ((Asf d i 0))),(iV ((Asf d i 1))),(iV ((Asf d i 2))),(iV ((Asf d i 3))),(iV ((Asf d i 4))),(iV ((Asf d i 5))),(iV ((Asf d i 6))),(iV ((Asf d i 7))),(iV ((Asf d i 8))),(iV ((Asf d i 9))),(iV ((Asf d i 10))),(iV ((Asf d i 11))),(iV (lo)),ov19_9001c27,(.map (some k11))] 294) :: (h60 ++ σ)))) (gr:=gr60) (i:=(a53.a).toNat) (v:=w60) (w:=(iV (a70))) ty3.info rfl rfl rfl (Cv.2 ⟨rfl,by constructor <;> omega⟩) G60 (by first | omega | (simp only [List.length_set]; omega)) fun gr73 G73=>⟨Brm,?_⟩)))
   refine Bmr 18 Bjb rfl (Nw ((a53.b).toNat) Bnb ty3.info rfl G73 (q:=a53.b) rfl (by omega) (by first | omega | (simp only [List.length_set]; omega)) rfl) (Bmv 19 Bjc rfl (Avq (σ:=((k13,oC #[(.pointer (some ⟨k12,0,none⟩))] 244) :: ((k12,oC #[c9_0,c9_1,(iV (d.begin_)),(iV (d.week)),(iV (d.restFrom)),(iV (d.restLong)),c9_2,c9_3,c9_4,(iV (d.flow.low)),(iV (d.flow.high)),(iV (d.loss.low)),(iV (d.loss.high)),c9_5,(iV ((Asf d i 0))),(iV ((Asf d i 1))),(iV ((Asf d i 2))),(iV ((Asf d i 3))),(iV ((Asf d i 4))),(iV ((Asf d i 5))),(iV ((Asf d i 6))),(iV ((Asf d i 7))),(iV ((Asf d i 8))),(iV ((Asf d i 9))),(iV ((Asf d i 10))),(iV ((Asf d i 11))),(iV (lo)),ov19_9001c27,(.map (some k11))] 294) :: (h60 ++ σ)))) (gr:=gr73) (i:=(a53.b).toNat) (v:=w60) (w:=(iV (a72))) ty3.info rfl rfl rfl (Cv.2 ⟨rfl,by constructor <;> omega⟩) G73 (by first | omega | (simp only [List.length_set]; omega)) fun gr74 G74=>⟨Brm,?_⟩))
   refine Ec rfl (k50 _ _ _ _ ?_)
   refine Aj (Brk ((p_a ((p_c Asw).trans Asw)).trans Ase)) (Aj (Brk Ase) (Axw hH60 G74 (Awr (by simp only [List.length_set]; omega)) fun g75 HO75=>Ag rfl rfl (l_v (Br h46_66 rfl (z:=(((k + 1):Nat):Int)) wrE) (Bmb (iV ((((k + 1):Nat):Int))) (Bj (Brk ((p_a Arz).trans Asd)) (Bj (Brk ((p_c Asd).trans Arz)) (Ac ?_)))))))
   refine ⟨_,?_,((k + 1)),g75,rfl,rfl,(Brn (Brn l46 l56) l60),rfl,h46_1,h46_5,h46_8,h46_64,h46_65,rfl,(by omega),(Bau (by rw [Auj ha53]; exact Bbc ha72 ha70) HO75),trivial⟩
   omega
  ·obtain ⟨a77,ha77⟩:=Ed (xs:=(atO (Aty d ((Auf d k)) a53.cycle) a53.cycle)) (i:=(a53.a).toNat) (by omega)
   have ⟨g76a,g76b⟩:=Awh G60 ha77
   refine Bdg (A:=((k13,oC #[(.pointer (some ⟨k12,0,none⟩))] 244) :: ((k12,oC #[c9_0,c9_1,(iV (d.begin_)),(iV (d.week)),(iV (d.restFrom)),(iV (d.restLong)),c9_2,c9_3,c9_4,(iV (d.flow.low)),(iV (d.flow.high)),(iV (d.loss.low)),(iV (d.loss.high)),c9_5,(iV ((Asf d i 0))),(iV ((Asf d i 1))),(iV ((Asf d i 2))),(iV ((Asf d i 3))),(iV ((Asf d i 4))),(iV ((Asf d i 5))),(iV ((Asf d i 6))),(iV ((Asf d i 7))),(iV ((Asf d i 8))),(iV ((Asf d i 9))),(iV ((Asf d i 10))),(iV ((Asf d i 11))),(iV (lo)),ov19_9001c27,(.map (some k11))] 294) :: (gr60 ++ (h60 ++ σ))))) ⟨Brm,fun _ h=>h⟩ (Awp G60 (fun p hp=>(List.mem_cons_of_mem _ (List.mem_cons_of_mem _ (List.mem_append_left _ hp)))) ha77 ⟨_,Bne,rfl⟩ rfl rfl) ⟨Brm,?_⟩
   obtain ⟨a79,ha79⟩:=Ed (xs:=(atO (Aty d ((Auf d k)) a53.cycle) a53.cycle)) (i:=(a53.b).toNat) (by omega)
   have ⟨g78a,g78b⟩:=Awh G60 ha79
   refine Bmt 10 Biy rfl (Bdg (A:=((k13,oC #[(.pointer (some ⟨k12,0,none⟩))] 244) :: ((k12,oC #[c9_0,c9_1,(iV (d.begin_)),(iV (d.week)),(iV (d.restFrom)),(iV (d.restLong)),c9_2,c9_3,c9_4,(iV (d.flow.low)),(iV (d.flow.high)),(iV (d.loss.low)),(iV (d.loss.high)),c9_5,(iV ((Asf d i 0))),(iV ((Asf d i 1))),(iV ((Asf d i 2))),(iV ((Asf d i 3))),(iV ((Asf d i 4))),(iV ((Asf d i 5))),(iV ((Asf d i 6))),(iV ((Asf d i 7))),(iV ((Asf d i 8))),(iV ((Asf d i 9))),(iV ((Asf d i 10))),(iV ((Asf d i 11))),(iV (lo)),ov19_9001c27,(.map (some k11))] 294) :: (gr60 ++ (h60 ++ σ))))) ⟨Brm,fun _ h=>h⟩ (Awp G60 (fun p hp=>(List.mem_cons_of_mem _ (List.mem_cons_of_mem _ (List.mem_append_left _ hp)))) ha79 ⟨_,Bne,rfl⟩ rfl rfl) ⟨Brm,?_⟩)
   refine Bmr 16 Biz rfl (Nw ((a53.a).toNat) Bnb ty3.info rfl G60 (q:=a53.a) rfl (by omega) (by first | omega | (simp only [List.length_set]; omega)) rfl) (Ej (Brk ((p_c Asw).trans Asw)) id (Bmv 17 Bja rfl (Avq (σ:=((k13,oC #[(.pointer (some ⟨k12,0,none⟩))] 244) :: ((k12,oC #[c9_0,c9_1,(iV (d.begin_)),(iV (d.week)),(iV (d.restFrom)),(iV (d.restLong)),c9_2,c9_3,c9_4,(iV (d.flow.low)),(iV (d.flow.high)),(iV (d.loss.low)),(iV (d.loss.high)),c9_5,(iV ((Asf d i 0))),(iV ((Asf d i 1))),(iV ((Asf d i 2))),(iV ((Asf d i 3))),(iV ((Asf d i 4))),(iV ((Asf d i 5))),(iV ((Asf d i 6))),(iV ((Asf d i 7))),(iV ((Asf d i 8))),(iV ((Asf d i 9))),(iV ((Asf d i 10))),(iV ((Asf d i 11))),(iV (lo)),ov19_9001c27,(.map (some k11))] 294) :: (h60 ++ σ)))) (gr:=gr60) (i:=(a53.a).toNat) (v:=w60) (w:=(iV (a79))) ty3.info rfl rfl rfl (Cv.2 ⟨rfl,by constructor <;> omega⟩) G60 (by first | omega | (simp only [List.length_set]; omega)) fun gr80 G80=>⟨Brm,?_⟩)))
   refine Bmr 18 Bjb rfl (Nw ((a53.b).toNat) Bnb ty3.info rfl G80 (q:=a53.b) rfl (by omega) (by first | omega | (simp only [List.length_set]; omega)) rfl) (Bmv 19 Bjc rfl (Avq (σ:=((k13,oC #[(.pointer (some ⟨k12,0,none⟩))] 244) :: ((k12,oC #[c9_0,c9_1,(iV (d.begin_)),(iV (d.week)),(iV (d.restFrom)),(iV (d.restLong)),c9_2,c9_3,c9_4,(iV (d.flow.low)),(iV (d.flow.high)),(iV (d.loss.low)),(iV (d.loss.high)),c9_5,(iV ((Asf d i 0))),(iV ((Asf d i 1))),(iV ((Asf d i 2))),(iV ((Asf d i 3))),(iV ((Asf d i 4))),(iV ((Asf d i 5))),(iV ((Asf d i 6))),(iV ((Asf d i 7))),(iV ((Asf d i 8))),(iV ((Asf d i 9))),(iV ((Asf d i 10))),(iV ((Asf d i 11))),(iV (lo)),ov19_9001c27,(.map (some k11))] 294) :: (h60 ++ σ)))) (gr:=gr80) (i:=(a53.b).toNat) (v:=w60) (w:=(iV (a77))) ty3.info rfl rfl rfl (Cv.2 ⟨rfl,by constructor <;> omega⟩) G80 (by first | omega | (simp only [List.length_set]; omega)) fun gr81 G81=>⟨Brm,?_⟩))
   refine Ec rfl (k50 _ _ _ _ ?_)
   refine Aj (Brk ((p_a ((p_c Asw).trans Asw)).trans Ase)) (Aj (Brk Ase) (Axw hH60 G81 (Awr (by simp only [List.length_set]; omega)) fun g82 HO82=>Ag rfl rfl (l_v (Br h46_66 rfl (z:=(((k + 1):Nat):Int)) wrE) (Bmb (iV ((((k + 1):Nat):Int))) (Bj (Brk ((p_a Arz).trans Asd)) (Bj (Brk ((p_c Asd).trans Arz)) (Ac ?_)))))))
   refine ⟨_,?_,((k + 1)),g82,rfl,rfl,(Brn (Brn l46 l56) l60),rfl,h46_1,h46_5,h46_8,h46_64,h46_65,rfl,(by omega),(Bau (by rw [Auj ha53]; exact Bbc ha77 ha79) HO82),trivial⟩
   omega
 have q49:=of_decide_eq_false b49
 refine Bx (k40 _ _ _ _ ?_)
 refine Asb rfl rfl fun K83 K84 k83 k84=>Arw (Ay Ditch.f_loans Bna rfl rfl Atk (by decide) h46_1 r2) fun v85 r85=>Arw (Ax Atk rfl r85) fun v86 r86=>?_
 have g87:=Bro r86
 refine l_v (Ci (el:=90) Bnk rfl r86) (Bmb (iV (0)) (l_k k84 (Ao (Cc (fun mm ee dd ρ' σ'=>∃ (j:Nat) (oo88:Own),(d.loans.length - j) = mm∧[] = dd∧Ro.le ρ46 ρ'∧((k13,oC #[(.pointer (some ⟨k12,0,none⟩))] 244) :: ((k12,oC #[c9_0,c9_1,(iV (d.begin_)),(iV (d.week)),(iV (d.restFrom)),(iV (d.restLong)),c9_2,c9_3,c9_4,(iV (d.flow.low)),(iV (d.flow.high)),(iV (d.loss.low)),(iV (d.loss.high)),c9_5,(iV ((Asf d i 0))),(iV ((Asf d i 1))),(iV ((Asf d i 2))),(iV ((Asf d i 3))),(iV ((Asf d i 4))),(iV ((Asf d i 5))),(iV ((Asf d i 6))),(iV ((Asf d i 7))),(iV ((Asf d i 8))),(iV ((Asf d i 9))),(iV ((Asf d i 10))),(iV ((Asf d i 11))),(iV (lo)),ov19_9001c27,(.map (some k11))] 294) :: (oo88 ++ σ))) = σ'∧ee 5 = (.pointer (some ⟨k13,0,none⟩))∧ee 8 = (.func (.func 164) #[] #[(.pointer (some ⟨k13,0,none⟩))])∧ee 94 = v86∧ee 95 = (iV (((d.loans.length:Nat):Int)))∧ee 96 = (iV ((j:Int)))∧(j ≤ d.loans.length)∧OthG ρ' k11 ((Avi d j)) oo88∧True) (m:=_) ⟨0,oo46,rfl,rfl,Brm,rfl,h46_5,h46_8,rfl,rfl,rfl,(Nat.zero_le _),(Bau (by rw [show k = d.swaps.length by omega]; rfl) HO46),trivial⟩ ?_))))
 rintro m88 e88 _ ρ88 _ ⟨j,oo88,rfl,rfl,l88,rfl,h88_5,h88_8,h88_94,h88_95,h88_96,p88_0,HO88,_⟩
 replace hdc10:=Brp l88 hdc10
 replace r42:=Brp l88 r42
 replace r86:=Brp l88 r86
 refine w_q rfl rfl fun K89 k89=>l_v (Da h88_96 h88_95) (Asa k89 fun K90 k90=>Up (t:=decide ((j:Int) < ((d.loans.length:Nat):Int))) rfl (fun b91=>?_) (fun b91=>?_))
 ·have q91:=of_decide_eq_true b91
  refine Al (k90 _ _ _ _ ?_)
  refine Ai fun K92 k92=>Ao (w_q rfl rfl fun K93 k93=>?_)
  obtain ⟨a95,ha95⟩:=Ed (xs:=d.loans) (i:=j) (by first | omega | (simp only [List.length_set]; omega))
  have ofa95:=ok.loan _ _ ha95
  refine Arw (Ch j Bnk Atx h88_94 r86 (q:=(j:Int)) h88_96 rfl ha95) fun v94 r94=>Arw (Ax Atx rfl r94) fun v96 r96=>Arv (Ct Awd fun k97=>?_)
  refine Cx rfl (Dv (v:=v96) (a:=a95) (c:=Bhc) Atx rfl rfl r96 rfl ?_)
  refine Bb (a:=a95) r96 fun ρ98 l98 r98=>?_
  replace r42:=Brp l98 r42
  replace HO88:=OthG.mono l98 HO88
  refine l_k k93 (Bmw (Bmq 0 Ajz rfl (Ah (v:=(.func (.func 164) #[] #[(.pointer (some ⟨k13,0,none⟩))])) h88_8) (Bms 1 Aka rfl (Ay WLoan.f_cycle Boc rfl rfl ty3 (by decide) rfl r98) fun v99 r99=>?_)))
  have ⟨g100a,g100b⟩:=Brh r99
  refine Bmq 2 Akb rfl (Bc ty3 rfl r99) (Bms 4 Bgv rfl (Ay WLoan.f_turn Boc rfl rfl ty3 (by decide) rfl r98) fun v101 r101=>?_)
  have ⟨g102a,g102b⟩:=Brh r101
  refine Bmq 5 Bgw rfl (Bc ty3 rfl r101) (Bms 6 [o1,o1,o1,o0,o1,o1,o1,o0,o0,o0] rfl (Ay WLoan.f_to Boc rfl rfl ty3 (by decide) rfl r98) fun v103 r103=>?_)
  have ⟨g104a,g104b⟩:=Brh r103
  refine Bmq 7 [o1,o1,o1,o0,o1,o1,o1,o1,o0,o0] rfl (Bc ty3 rfl r103) (Ej (Brk ((p_c Asw).trans Asw)) id (Ej (Brk ((p_a Arz).trans Asd)) id (Ej (Brk ((p_c Asd).trans Arz)) id (Bmt 3 Amg rfl (Sq (vs:=[(iV (a95.cycle))]) (caps:=[(.pointer (some ⟨k13,0,none⟩))]) rfl (Bcp ok r42 HO88) Tryz.func164 rfl rfl ⟨rfl,trivial⟩ fun w105 ρ105 σ105 hc105=>?_)))))
  obtain ⟨l105,gr105,h105,G105,hH105,hs105⟩:=hc105
  subst hs105
  refine ⟨l105,?_⟩
  have hlk105:=Bai (Axi ok (Axl ok (i:=j) (by omega)) (c:=a95.cycle) (by omega)) Awz
  have hln105:=hlk105.1
  refine Bmd 8 Anr rfl l105 rfl (Nw ((a95.turn).toNat) Bnb ty3.info rfl G105 (q:=a95.turn) rfl (by omega) (by first | omega | (simp only [List.length_set]; omega)) rfl) (Ej (Brk ((p_c Asw).trans Asw)) id (Bmv 9 Ans rfl (Avq (σ:=((k13,oC #[(.pointer (some ⟨k12,0,none⟩))] 244) :: ((k12,oC #[c9_0,c9_1,(iV (d.begin_)),(iV (d.week)),(iV (d.restFrom)),(iV (d.restLong)),c9_2,c9_3,c9_4,(iV (d.flow.low)),(iV (d.flow.high)),(iV (d.loss.low)),(iV (d.loss.high)),c9_5,(iV ((Asf d i 0))),(iV ((Asf d i 1))),(iV ((Asf d i 2))),(iV ((Asf d i 3))),(iV ((Asf d i 4))),(iV ((Asf d i 5))),(iV ((Asf d i 6))),(iV ((Asf d i 7))),(iV ((Asf d i 8))),(iV ((Asf d i 9))),(iV ((Asf d i 10))),(iV ((Asf d i 11))),(iV (lo)),ov19_9001c27,(.map (some k11))] 294) :: (h105 ++ σ)))) (gr:=gr105) (i:=(a95.turn).toNat) (v:=w105) (w:=(iV (a95.to))) ty3.info rfl rfl rfl (Cv.2 ⟨rfl,by constructor <;> omega⟩) G105 (by first | omega | (simp only [List.length_set]; omega)) fun gr106 G106=>⟨l105,?_⟩)))
  refine Ec rfl (k92 _ _ _ _ ?_)
  refine Aj (Brk ((p_a ((p_c Asw).trans Asw)).trans Ase)) (Aj (Brk Ase) (Axw hH105 G106 (Awr (by simp only [List.length_set]; omega)) fun g107 HO107=>Ag rfl rfl (l_v (Br h88_96 rfl (z:=(((j + 1):Nat):Int)) wrE) (Bmb (iV ((((j + 1):Nat):Int))) (Bj (Brk ((p_a Arz).trans Asd)) (Bj (Brk ((p_c Asd).trans Arz)) (Ac ?_)))))))
  refine ⟨_,?_,((j + 1)),g107,rfl,rfl,(Brn (Brn l88 l98) l105),rfl,h88_5,h88_8,h88_94,h88_95,rfl,(by omega),(Bau (by rw [Avj ha95]; rfl) HO107),trivial⟩
  omega
 have q91:=of_decide_eq_false b91
 refine Bx (k83 _ _ _ _ ?_)
 refine w_q rfl rfl fun K108 k108=>Arv (Dt (i:=0) (v:=(.pointer (some ⟨k12,0,none⟩))) ⟨_,Bon,rfl⟩ h88_5 rfl rfl ?_)
 refine Bma (.pointer (some ⟨k12,0,none⟩)) (Bma (iV (0)) (l_k k108 (Aj (Brk ((p_c Asw).trans Asw)) (Bci HO88 fun ρ109 l109 hR109=>?_))))
 replace hdc10:=Brp l109 hdc10
 replace r42:=Brp l109 r42
 refine Aj (Brk Arz) (Nt (a:=Avd d k11) (Bej ok (show i = d.turns.length by omega) p19_1 (hdc10) r42) fun ρ110 l110 r110=>?_)
 replace hR109:=OthR.mono l110 hR109
 refine Aj Bri (Aq (hret _ _ _ (⟨(Brn (Brn (Brn (Brn (Brn (Brn l2 l19) l42) l46) l88) l109) l110),rfl,_,(Mp (r:=2) (r':=3) (rs:=[]) (v:=(.pointer (some ⟨k12,0,none⟩))) (v':=z0) (vs:=[]) ⟨rfl,rfl,trivial⟩),k11,r110,(by have hj9:j = d.loans.length:=(by omega); rw [hj9] at hR109; exact hR109)⟩)))
end
section
set_option maxHeartbeats 1000000
open Go
theorem Azs {d:Ditch} (ok:DitchOk d) {h n:Int} (hn:0 ≤ n∧n ≤ 1000000000):-100000 ≤ Aui d h n∧Aui d h n ≤ 3000000000000:=by
 have h1:=Axe ok (h:=h) hn
 have h2:=Atn ok (Asx ok) (h:=h) (k:=n.tmod (Asg d))
 have h3:=Avk ok (h:=h) (n:=n) (L:=Awx d) (Awb ok).list
 have h4:=Bdc ok
 unfold Aui Avw
 omega
variable {mn:Bool} {X:Frame→List Frame→Ro→Own→Cy→Prop} {ρ:Ro} {σ:Own}
theorem Ayi {a b:Int} (ha:0 ≤ a∧a ≤ b) (hb:b ≤ 999999999):CallsH (CX mn X) 130 #[(iV (a)),(iV (b))] ρ σ (rP ρ σ (iV (0))):=by
 refine Bh (n:=18) (args:=[(iV (a)),(iV (b))]) [4] Tryz.func130 rfl rfl rfl rfl fun Q hret hnor=>w_q rfl rfl fun K1 k1=>Bma (iV (0)) (Asa k1 fun K2 k2=>Ao (w_q rfl rfl fun K3 k3=>Bmb (iV (a)) (Arv (Bm (Asu) Boo rfl rfl ⟨rfl,rfl,rfl,trivial⟩ ?_))))
 refine l_v (Iy rfl) (Bmb (.bool (!(inR a 0 999999999))) (l_M (iV (b)) (gY rfl (not_t (Fz.2 (by first | omega | (simp only; omega))))) rfl (Ae (gY rfl (not_t (Fz.2 (by first | omega | (simp only; omega))))) (Bm (Asu) Boo rfl rfl ⟨rfl,rfl,rfl,trivial⟩ ?_))))
 refine Aa (gY rfl (not_t (Fz.2 (by first | omega | (simp only; omega))))) (Iy rfl) (l_v (Bn rfl (not_t (Fz.2 (by first | omega | (simp only; omega)))) (v:=(.bool (!(inR b 0 999999999)))) rfl) (Bma (.bool (!(inR b 0 999999999))) (l_k k3 (Cg rfl (not_t (Fz.2 (by first | omega | (simp only; omega)))) (w_q rfl rfl fun K4 k4=>Bmb (iV (b)) (Bmb (iV (a)) (l_v (Da rfl rfl) (Bma (.bool (decide (b < a))) (l_k k4 (Cg rfl (decide_eq_false (by omega)) (Al (k2 _ _ _ _ ?_))))))))))))
 refine w_q rfl rfl fun K5 k5=>Bma (iV (0)) (l_k k5 (Aq (hret _ _ _ ⟨rfl,rfl,eT (iV (0)) ?_⟩)))
 rfl
theorem Blo {d:Ditch} {vd:Value} {h a b:Int} (hg:GlobT ρ) (rd:Val ρ vd d) (ok:DitchOk d) (hh:0 ≤ h∧h ≤ (d.holders.length:Int) - 1) (ha:0 ≤ a∧a ≤ b) (hb:b ≤ 999999999):CallsH (CX mn X) 127 #[vd,(iV (h)),(iV (a)),(iV (b))] ρ σ (fun w ρ' σ'=>Ro.le ρ ρ'∧σ' = σ∧∃ v,w = (.tuple #[v,z0])∧WaterAt ρ' v d):=by
 refine Bh (n:=32) (args:=[vd,(iV (h)),(iV (a)),(iV (b))]) [8,9] Tryz.func127 rfl rfl rfl rfl fun Q hret hnor=>w_q rfl rfl fun K1 k1=>Arv (Eb (v:=vd) rfl fun k2=>?_)
 refine Bb (a:=d) rd fun ρ2 l2 r2=>?_
 replace hg:=GlobT.mono l2 hg
 refine Bma (.pointer none) (Bma (iV (0)) (Arx rfl rfl k1 fun K3 k3=>Arw (Ax Asi rfl r2) fun v4 r4=>Arv (Cm (vs:=[v4]) (Bcr hg r4 ok) Tryz.func129 rfl rfl ⟨rfl,trivial⟩ fun w5 ρ5 σ5 hc5=>?_)))
 obtain ⟨l5,s5,v5,hw5,k5,r5,hO5⟩:=hc5
 replace s5:=s5.symm; subst s5 hw5
 refine Bmb (.tuple #[v5,(iV (0))]) (l_v (Bk (vs:=#[v5,(iV (0))]) rfl (v:=v5) rfl) (l_v (Bk (vs:=#[v5,(iV (0))]) rfl (v:=(iV (0))) rfl) (Bma v5 (Bma (iV (0)) (Asa k3 fun K6 k6=>Ao (w_q rfl rfl fun K7 k7=>Bmb (iV (0)) (l_v (Dg rfl rfl) (Bma (.bool (false)) (l_k k7 (Cg rfl rfl (w_q rfl rfl fun K8 k8=>Bmb v5 (l_v (Hj rfl r5) (Arw (Ay Water.f_ditch Bnh rfl rfl Auk (by decide) rfl r5) fun v9 r9=>Bmb (iV (h)) (Arv (Bm (Aut r9) Bqj rfl rfl ⟨rfl,rfl,trivial⟩ ?_)))))))))))))))
 refine l_v (Iy rfl) (Bma (.bool (!(inR h 0 (((d.holders.length:Int) - 1))))) (l_k k8 (Cg rfl (not_t (Fz.2 (by first | omega | (simp only; omega)))) (Al (k6 _ _ _ _ ?_)))))
 refine w_q rfl rfl fun K10 k10=>Bmb v5 (Bmb (iV (a)) (Bmb (iV (b)) (Arv (Bm (Ayi ha hb) Tryz.func130 rfl rfl ⟨rfl,rfl,trivial⟩ ?_))))
 refine Bma v5 (Bma (iV (0)) (l_k k10 (Aq (hret _ _ _ (⟨(Brn l2 l5),rfl,_,(Mp (r:=8) (r':=9) (rs:=[]) (v:=v5) (v':=z0) (vs:=[]) ⟨rfl,rfl,trivial⟩),k5,r5,hO5⟩)))))
theorem Bho {d:Ditch} {r:Nat} {vp:Value} {h a b:Int} (rp:At ρ vp (Avd d r)) (ok:DitchOk d) (hO:OthR ρ r (Awx d)) (ha:0 ≤ a∧a ≤ b) (hb:b ≤ 999999999):CallsH (CX mn X) 128 #[vp,(iV (h)),(iV (a)),(iV (b))] ρ σ (rP ρ σ (iV (Asm d h a b))):=by
 have hra:=Auc ok ha.1
 have hrb:=Auc ok (show 0 ≤ b by omega)
 have h1a:=Azs ok (h:=h) (n:=Ash d a) (by omega)
 have h1b:=Azs ok (h:=h) (n:=Ash d b) (by omega)
 refine Bh (n:=22) (args:=[vp,(iV (h)),(iV (a)),(iV (b))]) [8] Tryz.func128 rfl rfl rfl rfl fun Q hret hnor=>w_q rfl rfl fun K1 k1=>Bma (iV (0)) (Arx rfl rfl k1 fun K2 k2=>Bmb vp (Bmb (iV (h)) (Bmb vp (Bmb (iV (b)) (Arv (Bm (Bcs rp ok (by omega)) Bqi rfl rfl ⟨rfl,rfl,trivial⟩ ?_))))))
 refine Arv (Bm (Big rp ok hO (by omega)) Tryz.func162 rfl rfl ⟨rfl,rfl,rfl,trivial⟩ ?_)
 refine Bmb vp (Bmb (iV (h)) (Bmb vp (Bmb (iV (a)) (Arv (Bm (Bcs rp ok (by omega)) Bqi rfl rfl ⟨rfl,rfl,trivial⟩ ?_)))))
 refine Arv (Bm (Big rp ok hO (by omega)) Tryz.func162 rfl rfl ⟨rfl,rfl,rfl,trivial⟩ ?_)
 refine l_v (Ou rfl rfl (z:=(Aui d h (Ash d b) - Aui d h (Ash d a))) (Bo (by rfl) (by omega) (by omega))) (Bma (iV ((Aui d h (Ash d b) - Aui d h (Ash d a)))) (l_k k2 (Aq (hret _ _ _ ⟨rfl,rfl,eT (iV ((Aui d h (Ash d b) - Aui d h (Ash d a)))) ?_⟩))))
 rfl
theorem Bhn {d:Ditch} {vd:Value} {h a b:Int} (hg:GlobT ρ) (rd:Val ρ vd d) (ok:DitchOk d) (hh:0 ≤ h∧h ≤ (d.holders.length:Int) - 1) (ha:0 ≤ a∧a ≤ b) (hb:b ≤ 999999999):CallsH (CX mn X) 77 #[vd,(iV (h)),(iV (a)),(iV (b))] ρ σ (rP ρ σ (.tuple #[(iV (Asm d h a b)),(iV (0))])):=by
 refine Bh (n:=28) (args:=[vd,(iV (h)),(iV (a)),(iV (b))]) [8,9] Tryz.func77 rfl rfl rfl rfl fun Q hret hnor=>w_q rfl rfl fun K1 k1=>Arv (Eb (v:=vd) rfl fun k2=>?_)
 refine Bb (a:=d) rd fun ρ2 l2 r2=>?_
 replace hg:=GlobT.mono l2 hg
 refine Bma (iV (0)) (Bma (iV (0)) (Arx rfl rfl k1 fun K3 k3=>Arw (Ax Asi rfl r2) fun v4 r4=>Bmb (iV (h)) (Bmb (iV (a)) (Bmb (iV (b)) (Arv (Cm (vs:=[v4,(iV (h)),(iV (a)),(iV (b))]) (Blo hg r4 ok hh ha hb) Tryz.func127 rfl rfl ⟨rfl,rfl,rfl,rfl,trivial⟩ fun w5 ρ5 σ5 hc5=>?_))))))
 obtain ⟨l5,s5,v5,hw5,k5,r5,hO5⟩:=hc5
 replace s5:=s5.symm; subst s5 hw5
 refine Bmb (.tuple #[v5,(iV (0))]) (l_v (Bk (vs:=#[v5,(iV (0))]) rfl (v:=v5) rfl) (l_v (Bk (vs:=#[v5,(iV (0))]) rfl (v:=(iV (0))) rfl) (Bma v5 (Bma (iV (0)) (Ary rfl rfl k3 fun K6 K7 k6 k7=>Bmb (iV (0)) (l_v (Dg rfl rfl) (l_k k7 (Cg rfl rfl (Al (k6 _ _ _ _ ?_))))))))))
 refine w_q rfl rfl fun K8 k8=>Bmb v5 (Bmb (iV (h)) (Bmb (iV (a)) (Bmb (iV (b)) (Arv (Bm (Bho r5 ok hO5 ha hb) Tryz.func128 rfl rfl ⟨rfl,rfl,rfl,rfl,trivial⟩ ?_)))))
 refine Bma (iV (Asm d h a b)) (Bma (iV (0)) (l_k k8 (Aj (Brj (Brn l2 l5)) (Aq (hret _ _ _ ⟨rfl,rfl,Eq.trans (b:=(.tuple #[(iV (Asm d h a b)),(iV (0))])) (Mp (r:=8) (r':=9) (rs:=[]) (v:=(iV (Asm d h a b))) (v':=(iV (0))) (vs:=[]) ⟨rfl,rfl,trivial⟩) ?_⟩)))))
 rfl
theorem Bdt {d:Ditch} {vd:Value} {a b:Int} (hg:GlobT ρ) (rd:Val ρ vd d) (ok:DitchOk d) (ha:0 ≤ a∧a ≤ b) (hb:b ≤ 999999999):CallsH (CX mn X) 78 #[vd,(iV (a)),(iV (b))] ρ σ (rP ρ σ (.tuple #[(iV ((Ash d b - Ash d a))),(iV (0))])):=by
 have hra:=Auc ok ha.1
 have hrb:=Auc ok (show 0 ≤ b by omega)
 refine Bh (n:=30) (args:=[vd,(iV (a)),(iV (b))]) [6,7] Tryz.func78 rfl rfl rfl rfl fun Q hret hnor=>w_q rfl rfl fun K1 k1=>Arv (Eb (v:=vd) rfl fun k2=>?_)
 refine Bb (a:=d) rd fun ρ2 l2 r2=>?_
 replace hg:=GlobT.mono l2 hg
 refine Bma (iV (0)) (Bma (iV (0)) (Arx rfl rfl k1 fun K3 k3=>Arw (Ax Asi rfl r2) fun v4 r4=>Arv (Cm (vs:=[v4]) (Bcr hg r4 ok) Tryz.func129 rfl rfl ⟨rfl,trivial⟩ fun w5 ρ5 σ5 hc5=>?_)))
 obtain ⟨l5,s5,v5,hw5,k5,r5,hO5⟩:=hc5
 replace s5:=s5.symm; subst s5 hw5
 refine Bmb (.tuple #[v5,(iV (0))]) (l_v (Bk (vs:=#[v5,(iV (0))]) rfl (v:=v5) rfl) (l_v (Bk (vs:=#[v5,(iV (0))]) rfl (v:=(iV (0))) rfl) (Bma v5 (Bma (iV (0)) (Ary rfl rfl k3 fun K6 K7 k6 k7=>Bmb (iV (0)) (l_v (Ek rfl rfl) (l_k k7 (Co rfl rfl (Ag rfl rfl (Bmb (iV (a)) (Bmb (iV (b)) (Arv (Bm (Ayi ha hb) Tryz.func130 rfl rfl ⟨rfl,rfl,trivial⟩ ?_)))))))))))))
 refine Bma (iV (0)) (Ary rfl rfl k6 fun K8 K9 k8 k9=>Bmb (iV (0)) (l_v (Dg rfl rfl) (l_k k9 (Cg rfl rfl (Al (k8 _ _ _ _ ?_))))))
 refine w_q rfl rfl fun K10 k10=>Bmb v5 (Bmb (iV (b)) (Arv (Bm (Bcs r5 ok (by omega)) Bqi rfl rfl ⟨rfl,rfl,trivial⟩ ?_)))
 refine Bmb v5 (Bmb (iV (a)) (Arv (Bm (Bcs r5 ok (by omega)) Bqi rfl rfl ⟨rfl,rfl,trivial⟩ ?_)))
 refine l_v (Ou rfl rfl (z:=(Ash d b - Ash d a)) (Bo (by rfl) (by omega) (by omega))) (Bma (iV ((Ash d b - Ash d a))) (Bma (iV (0)) (l_k k10 (Aj (Brj (Brn l2 l5)) (Aq (hret _ _ _ ⟨rfl,rfl,Eq.trans (b:=(.tuple #[(iV ((Ash d b - Ash d a))),(iV (0))])) (Mp (r:=6) (r':=7) (rs:=[]) (v:=(iV ((Ash d b - Ash d a)))) (v':=(iV (0))) (vs:=[]) ⟨rfl,rfl,trivial⟩) ?_⟩))))))
 rfl
end
section
set_option maxHeartbeats 1000000
open Go
theorem Bac {d:Ditch} {a b:Int} {i:Nat} {x:ByteArray} (hx:d.holders[i]? = some x):Ast d a b i ++ [(⟨x,(i:Int),(⟨0,Asm d (i:Int) a b⟩:Span),[]⟩:FField)] = Ast d a b (i + 1):=by
 unfold Ast
 rw [List.range_succ,List.map_append]
 congr 1
 simp only [List.map_cons,List.map_nil,Atu,List.getD_eq_getElem?_getD,hx,Option.getD_some]
theorem Bei {i:Nat}:Ath i ++ [(i:Int)] = Ath (i + 1):=by
 unfold Ath
 rw [List.range_succ,List.map_append]; rfl
theorem Blz {d:Ditch} {a b:Int} {i:Nat}:(Ast d a b i).length = i:=by simp [Ast]
theorem Bgc {i:Nat}:(Ath i).length = i:=by simp [Ath]
set_option maxHeartbeats 2000000 in
theorem Avt {W0:World} {ρ:Ro} {σ:Own} {d:Ditch} {vd:Value} {a b:Int} (hg:GlobT ρ) (hnr:Jp σ) (rd:Val ρ vd d) (ok:DitchOk d) (h5:1 ≤ d.holders.length∧d.holders.length ≤ 5) (ha:0 ≤ a∧a ≤ b) (hb:b ≤ 999999999) (hbl:b - a ≤ 100000):CallsH (CY W0) 31 #[vd,(iV (a)),(iV (b))] ρ σ (fun w ρ' σ'=>Ro.le ρ ρ'∧σ' = σ∧w = .bool true):=by
 have hrm:=Avn ok ha.1 ha.2
 have hra:=Auc ok ha.1
 refine Bh (n:=79) (args:=[vd,(iV (a)),(iV (b))]) [6] Bqm rfl rfl rfl rfl fun Q hret hnor=>w_q rfl rfl fun K1 k1=>Arv (Eb (v:=vd) rfl fun k2=>?_)
 refine Bb (a:=d) rd fun ρ2 l2 r2=>?_
 replace hg:=GlobT.mono l2 hg
 refine Bma (.bool (false)) (Arx rfl rfl k1 fun K3 k3=>Arw (Ay Ditch.f_holders Bna rfl rfl Hw (by decide) rfl r2) fun v4 r4=>Arw (Ax Hw rfl r4) fun v5 r5=>?_)
 have r6:Val ρ2 (.agg #[v5,(nS),(nS),(nS)]) (⟨d.holders,[],[],[]⟩:Market):=Market.shut (x:=(⟨d.holders,[],[],[]⟩:Market)) r5 Gx Gx Gx
 refine l_v (Dn (ns:=[1,1,1,1]) (vs:=[(0,v5)]) (zc:=Amj) (cs:=[v5,(nS),(nS),(nS)]) Bng Apg rfl ⟨⟨_,Ab Bpr,rfl⟩,⟨_,Ab Bpr,rfl⟩,⟨_,Ab Bps,rfl⟩,⟨_,Ab Bpd,rfl⟩,trivial⟩ (EvB.map ⟨⟨rfl,rfl⟩,trivial⟩) ((Be (cs:=[v5]) (Val.cells_l r5) rfl (Nat.le_of_ble_eq_true rfl)).trans rfl)) (Arv (Ct Apg fun k7=>?_))
 refine Cx rfl (Li (i:=0) (vs:=[v5,(nS),(nS),(nS)]) (c':=[v5,(nS),(nS),(nS)]) ⟨_,Ab Bot,rfl⟩ rfl rfl rfl rfl (Zh ⟨(Val.single_l r5),rfl,rfl,rfl,trivial⟩) rfl (Nat.le_of_ble_eq_true rfl) rfl ?_)
 refine Arx rfl rfl k3 fun K8 k8=>Bma (nS) (Ary rfl rfl k8 fun K9 K10 k9 k10=>Bma (iV (0)) (l_k k10 (Ao (Cc (fun mm ee dd ρ' σ'=>∃ (i:Nat) (ov11_7c2:Value) (og11_7c2:Own) (ov11_8:Value) (og11_8:Own),(d.holders.length - i) = mm∧[] = dd∧Ro.le ρ2 ρ'∧(og11_7c2 ++ (og11_8 ++ ((k7,oC #[v5,(nS),ov11_7c2,(nS)] 36) :: σ))) = σ'∧ee 1 = (iV (a))∧ee 2 = (iV (b))∧ee 3 = (.pointer (some ⟨k2,0,none⟩))∧ee 7 = (.pointer (some ⟨k7,0,none⟩))∧ee 8 = ov11_8∧ee 9 = (iV ((i:Int)))∧(i ≤ d.holders.length)∧Grow ρ' 47 ov11_7c2 (Ast d a b i) og11_7c2∧Grow ρ' 3 ov11_8 (Ath i) og11_8∧True) (m:=_) ⟨0,(nS),[],(nS),[],rfl,rfl,Brm,rfl,rfl,rfl,rfl,rfl,rfl,rfl,(Nat.zero_le _),(Fy (by simp [Ast]) Hm),(Fy (by simp [Ath]) Hm),trivial⟩ ?_))))
 rintro m11 e11 _ ρ11 _ ⟨i,ov11_7c2,og11_7c2,ov11_8,og11_8,rfl,rfl,l11,rfl,h11_1,h11_2,h11_3,h11_7,h11_8,h11_9,p11_0,OG11_7c2,OG11_8,_⟩
 replace hg:=GlobT.mono l11 hg
 replace r2:=At.mono l11 r2
 replace r5:=Brp l11 r5
 have hwl11:=Blz (d:=d) (a:=a) (b:=b) (i:=i)
 have hal11:=Bgc (i:=i)
 refine Asb rfl rfl fun K12 K13 k12 k13=>l_v (Ah (v:=(iV ((i:Int)))) h11_9) (Arw (Ay Ditch.f_holders Bna rfl rfl Hw (by decide) h11_3 r2) fun v14 r14=>Arw (Ax Hw rfl r14) fun v15 r15=>?_)
 have g16:=Bro r15
 refine l_v (Ci (el:=9) Bnd rfl r15) (l_v (Da rfl rfl) (l_k k13 (Up (t:=decide ((i:Int) < ((d.holders.length:Nat):Int))) rfl (fun b17=>?_) (fun b17=>?_))))
 ·have q17:=of_decide_eq_true b17
  refine Al (k12 _ _ _ _ ?_)
  refine Ai fun K18 k18=>Ao (w_q rfl rfl fun K19 k19=>Arw (Ax Asi h11_3 r2) fun v20 r20=>l_v (Ah (v:=(iV ((i:Int)))) h11_9) (l_v (Ah (v:=(iV (a))) h11_1) (l_v (Ah (v:=(iV (b))) h11_2) (Arv (Bm (Bhn hg r20 ok (by omega) ha hb) Tryz.func77 rfl rfl ⟨rfl,rfl,rfl,rfl,trivial⟩ ?_)))))
  refine Bmb (.tuple #[(iV (Asm d ((i:Int)) a b)),(iV (0))]) (l_v (Bk (vs:=#[(iV (Asm d ((i:Int)) a b)),(iV (0))]) rfl (v:=(iV (Asm d ((i:Int)) a b))) rfl) (l_v (Bk (vs:=#[(iV (Asm d ((i:Int)) a b)),(iV (0))]) rfl (v:=(iV (0))) rfl) (Bma (iV (Asm d ((i:Int)) a b)) (Bma (iV (0)) (Ary rfl rfl k19 fun K21 K22 k21 k22=>Bmb (iV (0)) (l_v (Dg rfl rfl) (l_k k22 (Cg rfl rfl (Al (k21 _ _ _ _ ?_))))))))))
  refine Ai fun K23 k23=>Awj (((k7,oC #[v5,(nS),ov11_7c2,(nS)] 36) :: [])) [0,1,2,3,4,5,6,7,8,9,10,11,12,13] (by kernel_rfl) rfl rfl (Bmk 0 Aov rfl ⟨Brm,sB⟩ rfl (Yld.o (Cb Bng rfl rfl ⟨_,Ab Bps,rfl⟩ (by decide) h11_7 rfl)) (Bmk 1 Aow rfl ⟨Brm,sB⟩ rfl (Atf (v:=ov11_7c2) ⟨_,Bnp,rfl⟩ rfl (List.mem_cons_self ..) rfl) (Bmo 2 Aox rfl ⟨Brm,sB⟩ rfl (Axx (Ay Ditch.f_holders Bna rfl rfl Hw (by decide) h11_3 r2)) fun v24 r24=>Bmo 3 Aoy rfl ⟨Brm,sB⟩ rfl (Axx (Ax Hw rfl r24)) fun v25 r25=>Bmk 4 Aoz rfl ⟨Brm,sB⟩ rfl (Yld.o (Ah (v:=(iV ((i:Int)))) h11_9)) ?_)))
  obtain ⟨a27,ha27⟩:=Ed (xs:=d.holders) (i:=i) (by first | omega | simp)
  have hhra27:=Auy ok (h:=(i:Int)) ha.1 ha.2
  have hhba27:Asm d (i:Int) a b ≤ 4000000000000:=by have h1:=Azs ok (h:=(i:Int)) (n:=Ash d a) (by omega); have h2:=Azs ok (h:=(i:Int)) (n:=Ash d b) (by omega); unfold Asm; omega
  refine Bmo 5 Apa rfl ⟨Brm,sB⟩ rfl (Axx (Ch i Bnd ty9 rfl r25 (q:=(i:Int)) rfl rfl ha27)) fun v26 r26=>?_
  have g28:=At.slen r26
  refine Bmk 6 Amh rfl ⟨Brm,sB⟩ rfl (Yld.o (Pk ty9 rfl r26)) (Bmk 7 [o1,o1,o1,o1,o1,o1,o1,o1,o0,o0,o0,o0,o0,o0,o0] rfl ⟨Brm,sB⟩ rfl (Yld.o (Ah (v:=(iV ((i:Int)))) h11_9)) (Bml 8 [o1,o1,o1,o1,o1,o1,o1,o1,o1,o0,o0,o0,o0,o0,o0] rfl ⟨Brm,sB⟩ rfl (Yld.o (Ah (v:=(iV (Asm d ((i:Int)) a b))) rfl)) ⟨Brm,sB⟩ (Bmn 9 [o1,o1,o1,o1,o1,o1,o1,o1,o1,o1,o0,o0,o0,o0,o0] rfl rfl (Cm (vs:=[(iV (0)),(iV (Asm d ((i:Int)) a b))]) (Hy (a:=0) (b:=Asm d ((i:Int)) a b) (by constructor <;> omega) (by constructor <;> omega)) Bos rfl rfl ⟨rfl,rfl,trivial⟩ fun v29 ρ29 σ29 hc29=>?_))))
  obtain ⟨l29,s29,r29⟩:=hc29
  replace s29:=s29.symm; subst s29
  replace OG11_7c2:=Brl l29 OG11_7c2
  replace OG11_8:=Brl l29 OG11_8
  refine ⟨⟨l29,sB⟩,?_⟩
  obtain ⟨e30_,⟨i30_1a,i30_1b⟩,⟨i30_2a,i30_2b⟩⟩:=Span.open_ r29
  have e30_c:v29.cells = [(iV (0)),(iV (Asm d ((i:Int)) a b))].toArray:=by rw [e30_]; rfl
  have r31:Val ρ29 (.agg #[(.string (a27)),(iV ((i:Int))),(iV (0)),(iV (Asm d ((i:Int)) a b)),(nS)]) (⟨a27,(i:Int),⟨0,Asm d ((i:Int)) a b⟩,[]⟩:FField):=FField.shut (x:=(⟨a27,(i:Int),⟨0,Asm d ((i:Int)) a b⟩,[]⟩:FField)) (show (a27).size < 2 ^ 60 by omega) (show I64 ((i:Int)) from by constructor <;> omega) (show I64 (0) from by constructor <;> omega) (show I64 (Asm d ((i:Int)) a b) from by constructor <;> omega) Gx
  refine Bml 10 [o1,o1,o1,o1,o1,o1,o1,o1,o1,o1,o1,o0,o0,o0,o0] rfl ⟨l29,sB⟩ rfl (Yld.o (Dn (ns:=[1,1,2,1]) (vs:=[(0,(.string (a27))),(1,(iV ((i:Int)))),(2,v29)]) (zc:=Aah) (cs:=[(.string (a27)),(iV ((i:Int))),(iV (0)),(iV (Asm d ((i:Int)) a b)),(nS)]) Bnr Xu rfl ⟨⟨_,Ab Bpg,rfl⟩,⟨_,Ab Bnc,rfl⟩,⟨_,Ab Bpe,rfl⟩,⟨_,Ab Bpx,rfl⟩,trivial⟩ (EvB.map ⟨⟨rfl,rfl⟩,⟨rfl,rfl⟩,⟨rfl,rfl⟩,trivial⟩) ((Be (cs:=[(.string (a27))]) rfl rfl (Nat.le_of_ble_eq_true rfl)).trans ((Be (cs:=[(iV ((i:Int)))]) rfl rfl (Nat.le_of_ble_eq_true rfl)).trans ((Be (cs:=[(iV (0)),(iV (Asm d ((i:Int)) a b))]) e30_c rfl (Nat.le_of_ble_eq_true rfl)).trans rfl))))) ⟨Brm,sB⟩ (Bmn 11 [o1,o1,o1,o1,o1,o1,o1,o1,o1,o1,o1,o1,o0,o0,o0] rfl rfl (Bi (α:=FField) (xs:=[(⟨a27,(i:Int),⟨0,Asm d ((i:Int)) a b⟩,[]⟩:FField)]) (vs:=[(.agg #[(.string (a27)),(iV ((i:Int))),(iV (0)),(iV (Asm d ((i:Int)) a b)),(nS)])]) Bnp Lo Xu rfl (by decide) (Dk (os:=[.tmp 44]) ⟨rfl,trivial⟩) ⟨r31,trivial⟩ rfl (by decide) fun k32 cs32 R32=>⟨⟨l29,sB⟩,?_⟩))
  have G32:Grow ρ29 47 (.slice (some ⟨k32,0,none⟩) 1 1) ([(⟨a27,(i:Int),⟨0,Asm d ((i:Int)) a b⟩,[]⟩:FField)]:List FField) [(k32,oC cs32.toArray 47)]:=Bs R32 rfl (by decide)
  refine Ayu G32 sB fun ρ34 l34 r34=>?_
  replace OG11_7c2:=Brl l34 OG11_7c2
  replace OG11_8:=Brl l34 OG11_8
  refine Bmn 12 Ami rfl rfl (Gc (σ:=(og11_8 ++ ((k7,oC #[v5,(nS),ov11_7c2,(nS)] 36) :: σ))) (gr:=og11_7c2) (xs:=Ast d a b i) (ys:=([(⟨a27,(i:Int),⟨0,Asm d ((i:Int)) a b⟩,[]⟩:FField)]:List FField)) Bnp Bnp (Ab Brd) rfl (Nat.le_of_ble_eq_true rfl) rfl rfl rfl rfl OG11_7c2 r34 (by simp only [List.length_append,List.length_cons,List.length_nil] at *; omega) fun v33 gr33 G33=>⟨⟨(Brn l29 l34),sB⟩,?_⟩)
  refine Bml 13 Apb rfl ⟨(Brn l29 l34),sB⟩ rfl (Yld.o (Cb Bng rfl rfl ⟨_,Ab Bps,rfl⟩ (by decide) h11_7 rfl)) ⟨Brm,sB⟩ (Axn ((p_a Asd).trans Asd) (Bmm 14 Apc rfl rfl (Cz (j:=0) (v:=v33) ⟨_,Ab Bps,rfl⟩ rfl rfl (Grow.single G33) rfl (Nat.le_of_ble_eq_true rfl) ?_)))
  refine Bat rfl (k23 _ _ _ _ ?_)
  refine Ag rfl rfl (l_v (Ah (v:=ov11_8) h11_8) (l_v (Ah (v:=(iV ((i:Int)))) h11_9) (Arv (Bi (α:=Int) (xs:=[(i:Int)]) (vs:=[(iV ((i:Int)))]) Bnb ty3 zr3 rfl (by decide) (Dk (os:=[.tmp 49]) ⟨rfl,trivial⟩) ⟨(Cv.2 ⟨rfl,by constructor <;> omega⟩),trivial⟩ rfl (by decide) fun k35 cs35 R35=>?_))))
  have G35:Grow ρ34 3 (.slice (some ⟨k35,0,none⟩) 1 1) ([(i:Int)]:List Int) [(k35,oC cs35.toArray 3)]:=Bs R35 rfl (by decide)
  refine Ca G35 fun ρ37 l37 r37=>?_
  replace OG11_8:=Brl l37 OG11_8
  replace G33:=Brl l37 G33
  refine Bj (Brk ((p_c Ase).trans Asw)) (Arv (Gc (σ:=((k7,oC #[v5,(nS),v33,(nS)] 36) :: (gr33 ++ σ))) (gr:=og11_8) (xs:=Ath i) (ys:=([(i:Int)]:List Int)) Bnb Bnb (Ab Bnc) rfl (Nat.le_of_ble_eq_true rfl) rfl rfl rfl rfl OG11_8 r37 (by simp only [List.length_append,List.length_cons,List.length_nil] at *; omega) fun v36 gr36 G36=>?_))
  refine Bma v36 (l_k k18 (Ag rfl rfl (l_v (Ah (v:=(iV ((i:Int)))) h11_9) (l_v (Br rfl rfl (z:=(((i + 1):Nat):Int)) wrE) (Bma (iV ((((i + 1):Nat):Int))) (Bj (Brk Asd) (Bj (Brk Asw) (Bj (Brk ((p_a Asw).trans Ase)) (Ac ?_)))))))))
  refine ⟨_,?_,((i + 1)),v33,gr33,v36,gr36,rfl,rfl,(Brn (Brn (Brn l11 l29) l34) l37),rfl,h11_1,h11_2,h11_3,h11_7,rfl,rfl,(by omega),(Fy (Bac ha27) G33),(Fy (Bei) G36),trivial⟩
  omega
 have q17:=of_decide_eq_false b17
 refine Bx (k9 _ _ _ _ ?_)
 refine Ai fun K38 k38=>?_
 replace OG11_7c2:Grow ρ11 47 ov11_7c2 (Ast d a b d.holders.length) og11_7c2:=Fy (by rw [show i = d.holders.length by omega]) OG11_7c2
 replace OG11_8:Grow ρ11 3 ov11_8 (Ath d.holders.length) og11_8:=Fy (by rw [show i = d.holders.length by omega]) OG11_8
 refine Ag rfl rfl (Arw (Ax Asi h11_3 r2) fun v39 r39=>l_v (Ah (v:=(iV (a))) h11_1) (l_v (Ah (v:=(iV (b))) h11_2) (Arv (Bm (Bdt hg r39 ok ha hb) Tryz.func78 rfl rfl ⟨rfl,rfl,rfl,trivial⟩ ?_))))
 refine Bmb (.tuple #[(iV ((Ash d b - Ash d a))),(iV (0))]) (l_v (Bk (vs:=#[(iV ((Ash d b - Ash d a))),(iV (0))]) rfl (v:=(iV ((Ash d b - Ash d a)))) rfl) (l_v (Bk (vs:=#[(iV ((Ash d b - Ash d a))),(iV (0))]) rfl (v:=(iV (0))) rfl) (Bma (iV ((Ash d b - Ash d a))) (Bma (iV (0)) (Arx rfl rfl k38 fun K40 k40=>Bmb (iV ((Ash d b - Ash d a))) (l_v (Ah (v:=ov11_8) h11_8) (Bj (Brk Ase) (Ca OG11_8 fun ρ41 l41 r41=>?_))))))))
 replace hg:=GlobT.mono l41 hg
 replace r5:=Brp l41 r5
 replace OG11_7c2:=Brl l41 OG11_7c2
 have r42:Val ρ41 (.agg #[(iV ((Ash d b - Ash d a))),ov11_8]) (⟨(Ash d b - Ash d a),(Ath d.holders.length)⟩:Sale):=Sale.shut (x:=(⟨(Ash d b - Ash d a),(Ath d.holders.length)⟩:Sale)) (show I64 ((Ash d b - Ash d a)) from by constructor <;> omega) r41
 refine l_v (Dn (ns:=[1,1]) (vs:=[(0,(iV ((Ash d b - Ash d a)))),(1,ov11_8)]) (zc:=Akd) (cs:=[(iV ((Ash d b - Ash d a))),ov11_8]) Bnq Agb rfl ⟨⟨_,Ab Bnc,rfl⟩,⟨_,Ab Bop,rfl⟩,trivial⟩ (EvB.map ⟨⟨rfl,rfl⟩,⟨rfl,rfl⟩,trivial⟩) ((Be (cs:=[(iV ((Ash d b - Ash d a)))]) rfl rfl (Nat.le_of_ble_eq_true rfl)).trans ((Be (cs:=[ov11_8]) (Val.cells_l r41) rfl (Nat.le_of_ble_eq_true rfl)).trans rfl))) (Arv (Bi (α:=Sale) (xs:=[(⟨(Ash d b - Ash d a),(Ath d.holders.length)⟩:Sale)]) (vs:=[(.agg #[(iV ((Ash d b - Ash d a))),ov11_8])]) Bnm ty59 Agb rfl (by decide) (Dk (os:=[.tmp 61]) ⟨rfl,trivial⟩) ⟨r42,trivial⟩ rfl (by decide) fun k43 cs43 R43=>?_))
 have G43:Grow ρ41 146 (.slice (some ⟨k43,0,none⟩) 1 1) ([(⟨(Ash d b - Ash d a),(Ath d.holders.length)⟩:Sale)]:List Sale) [(k43,oC cs43.toArray 146)]:=Bs R43 rfl (by decide)
 refine l_v (Cb Bng rfl rfl ⟨_,Ab Bpd,rfl⟩ (by decide) h11_7 rfl) (Bj (Brk ((p_c Asd).trans Arz)) (Cx rfl (Cz (j:=0) (v:=(.slice (some ⟨k43,0,none⟩) 1 1)) ⟨_,Ab Bpd,rfl⟩ rfl rfl (Grow.single G43) rfl (Nat.le_of_ble_eq_true rfl) ?_)))
 refine Ary rfl rfl k40 fun K44 K45 k44 k45=>Bmb (iV (0)) (l_v (Dg rfl rfl) (Bmb (.bool (false)) (Bj (Brk ((p_c Asw).trans Asw)) (Ca OG11_7c2 fun ρ46 l46 r46=>?_))))
 replace hg:=GlobT.mono l46 hg
 replace r5:=Brp l46 r5
 replace G43:=Brl l46 G43
 refine Bj (Brk Arz) ?_
 have sv47_hg:=hg
 have sv47_r5:=r5
 have sv47_G43:=G43
 have sv47_r46:=r46
 refine Bki G43 fun ρ47 l47 r47 L47=>?_
 replace hg:=GlobT.mono l47 hg
 replace r5:=Brp l47 r5
 replace G43:=Brl l47 G43
 replace r46:=Brp l47 r46
 refine Ae (gY rfl rfl) (Xo (i:=0) (cs:=[v5,(nS),ov11_7c2,(.slice (some ⟨k43,0,none⟩) 1 1)]) (rs:=[]) ⟨_,Bng,rfl⟩ ⟨_,Ab Bot,rfl⟩ h11_7 rfl rfl rfl ?_)
 have r48:Val ρ47 (.agg #[v5,(nS),ov11_7c2,(.slice (some ⟨k43,0,none⟩) 1 1)]) (⟨d.holders,[],(Ast d a b d.holders.length),([(⟨(Ash d b - Ash d a),(Ath d.holders.length)⟩:Sale)]:List Sale)⟩:Market):=Market.shut (x:=(⟨d.holders,[],(Ast d a b d.holders.length),([(⟨(Ash d b - Ash d a),(Ath d.holders.length)⟩:Sale)]:List Sale)⟩:Market)) r5 Gx r46 r47
 have hm49:Cf ((⟨d.holders,[],(Ast d a b d.holders.length),([(⟨(Ash d b - Ash d a),(Ath d.holders.length)⟩:Sale)]:List Sale)⟩:Market)) = 0:=Ave (g:=(Ash d b - Ash d a)) ok h5 ha.1 ha.2 hbl (by omega)
 have hx49:Ahr ((⟨d.holders,[],(Ast d a b d.holders.length),([(⟨(Ash d b - Ash d a),(Ath d.holders.length)⟩:Sale)]:List Sale)⟩:Market)) = 0:=(Blv (g:=(Ash d b - Ash d a)) ok h5 ha.1 ha.2 hbl (by omega)).trans (by omega)
 refine Ae (gY rfl rfl) (Cm (vs:=[(.agg #[v5,(nS),ov11_7c2,(.slice (some ⟨k43,0,none⟩) 1 1)]),(iV (0))]) (Ato (Bet (Asz hnr) r48 hm49 hx49)) Tryz.func22 rfl rfl ⟨rfl,rfl,trivial⟩ fun w50 ρ50 σ50 hc50=>?_)
 obtain ⟨l50,s50,hw50⟩:=hc50
 replace s50:=s50.symm; subst s50 hw50
 replace hg:=GlobT.mono l50 hg
 replace r5:=Brp l50 r5
 replace r46:=Brp l50 r46
 replace L47:=Lent.mono l50 L47
 refine Aa (gY rfl rfl) (Iy rfl) (l_v (Bn rfl rfl (v:=(.bool (!(true)))) rfl) (l_k k45 (Cg rfl (not_t rfl) (Al (k44 _ _ _ _ ?_)))))
 refine Ai fun K51 k51=>Bic L47 (Asz hnr) ?_
 replace hg:=sv47_hg
 replace r5:=sv47_r5
 replace G43:=sv47_G43
 replace r46:=sv47_r46
 refine Ag rfl rfl (l_v (Cb Bng rfl rfl ⟨_,Ab Bpd,rfl⟩ (by decide) h11_7 rfl) (Arv (Gu (v:=(.slice (some ⟨k43,0,none⟩) 1 1)) ⟨_,Bnm,rfl⟩ rfl (List.mem_append_right _ (List.mem_cons_self ..)) rfl ?_)))
 refine Bmb (iV ((Ash d b - Ash d a))) (l_v (Br rfl rfl (z:=((Ash d b - Ash d a) + 1)) (Bo (by rfl) (by omega) (by omega))) (l_v (Nw 0 Bnm ty59.info rfl G43 (q:=0) rfl rfl (by first | omega | simp) rfl) (l_v (Cb (off':=0 * Dat.k Sale + 0) Bnq rfl rfl ⟨_,Ab Bnc,rfl⟩ (by decide) rfl rfl) (Cx rfl (Jm (σ:=((k7,oC #[v5,(nS),ov11_7c2,(.slice (some ⟨k43,0,none⟩) 1 1)] 36) :: σ)) (gr:=[(k43,oC cs43.toArray 146)]) (i:=0) (o:=0) (v:=(.slice (some ⟨k43,0,none⟩) 1 1)) (w:=(iV (((Ash d b - Ash d a) + 1)))) (z:=(⟨(Ash d b - Ash d a),Ath d.holders.length⟩:Sale)) (a:=(⟨((Ash d b - Ash d a) + 1),Ath d.holders.length⟩:Sale)) ⟨_,Ab Bnc,rfl⟩ rfl rfl (by decide) rfl rfl G43 rfl (fun cs h=>Bef (z:=(⟨(Ash d b - Ash d a),Ath d.holders.length⟩:Sale)) (by constructor <;> omega) cs h) fun gr52 G52=>?_)))))
 refine Arx rfl rfl k51 fun K53 k53=>Ca G52 fun ρ54 l54 r54=>?_
 replace r5:=Brp l54 r5
 replace r46:=Brp l54 r46
 refine Arv (Xo (i:=0) (cs:=[v5,(nS),ov11_7c2,(.slice (some ⟨k43,0,none⟩) 1 1)]) (rs:=[]) ⟨_,Bng,rfl⟩ ⟨_,Ab Bot,rfl⟩ h11_7 rfl rfl rfl ?_)
 have r55:Val ρ54 (.agg #[v5,(nS),ov11_7c2,(.slice (some ⟨k43,0,none⟩) 1 1)]) (⟨d.holders,[],(Ast d a b d.holders.length),((([(⟨(Ash d b - Ash d a),(Ath d.holders.length)⟩:Sale)]:List Sale)).set 0 ((⟨((Ash d b - Ash d a) + 1),Ath d.holders.length⟩:Sale)))⟩:Market):=Market.shut (x:=(⟨d.holders,[],(Ast d a b d.holders.length),((([(⟨(Ash d b - Ash d a),(Ath d.holders.length)⟩:Sale)]:List Sale)).set 0 ((⟨((Ash d b - Ash d a) + 1),Ath d.holders.length⟩:Sale)))⟩:Market)) r5 Gx r46 r54
 have hm56:Cf ((⟨d.holders,[],(Ast d a b d.holders.length),((([(⟨(Ash d b - Ash d a),(Ath d.holders.length)⟩:Sale)]:List Sale)).set 0 ((⟨((Ash d b - Ash d a) + 1),Ath d.holders.length⟩:Sale)))⟩:Market)) = 0:=Ave (g:=(Ash d b - Ash d a) + 1) ok h5 ha.1 ha.2 hbl (by omega)
 have hx56:Ahr ((⟨d.holders,[],(Ast d a b d.holders.length),((([(⟨(Ash d b - Ash d a),(Ath d.holders.length)⟩:Sale)]:List Sale)).set 0 ((⟨((Ash d b - Ash d a) + 1),Ath d.holders.length⟩:Sale)))⟩:Market)) = 1:=(Blv (g:=(Ash d b - Ash d a) + 1) ok h5 ha.1 ha.2 hbl (by omega)).trans (by omega)
 refine Arv (Cm (vs:=[(.agg #[v5,(nS),ov11_7c2,(.slice (some ⟨k43,0,none⟩) 1 1)]),(iV (1))]) (Ato (Bet (Asz hnr) r55 hm56 hx56)) Tryz.func22 rfl rfl ⟨rfl,rfl,trivial⟩ fun w57 ρ57 σ57 hc57=>?_)
 obtain ⟨l57,s57,hw57⟩:=hc57
 replace s57:=s57.symm; subst s57 hw57
 refine Bma (.bool (true)) (l_k k53 (Aj Bri (Aq (hret _ _ _ (⟨(Brn (Brn (Brn (Brn (Brn l2 l11) l41) l46) l54) l57),rfl,rfl⟩)))))
set_option maxHeartbeats 4000000 in
theorem Baj {W0:World} {ρ:Ro} {σ:Own} {d:Ditch} {l:WLoan} {from_ long:Nat} {vd vl:Value} (hg:GlobT ρ) (hnr:Jp σ) (rd:Val ρ vd d) (rl:Val ρ vl l) (hfrom:from_ < 4294967296) (hlong:long < 4294967296):Agd (CY W0) 6 8 [vd,vl,(.int .u32 ((from_:Int))),(.int .u32 ((long:Int)))] ρ σ (rP ρ σ (.bool (true))):=by
 refine Bhm (n:=66) Tryz.func6 rfl rfl rfl rfl fun Q hret hnor=>w_q rfl rfl fun K1 k1=>Arv (Eb (v:=vd) rfl fun k2=>?_)
 refine Bb (a:=d) rd fun ρ2 l2 r2=>?_
 replace rl:=Brp l2 rl
 replace hg:=GlobT.mono l2 hg
 refine Arv (Eb (v:=vl) rfl fun k3=>?_)
 refine Bb (a:=l) rl fun ρ3 l3 r3=>?_
 replace hg:=GlobT.mono l3 hg
 replace r2:=At.mono l3 r2
 refine Bma (.bool (false)) (Ary rfl rfl k1 fun K4 K5 k4 k5=>Arw (Ax Asi rfl r2) fun v6 r6=>?_)
 have r7:Val ρ3 (.agg #[(iV (0)),(iV (0)),(nS)]) (⟨⟨0,0⟩,[]⟩:WLog):=WLog.shut (x:=(⟨⟨0,0⟩,[]⟩:WLog)) (show I64 (0) from by constructor <;> omega) (show I64 (0) from by constructor <;> omega) Gx
 refine l_v (Dn (ns:=[2,1]) (vs:=[]) (zc:=Bld) (cs:=[(iV (0)),(iV (0)),(nS)]) Tryz.underlying95 Bli rfl ⟨⟨_,Ab Bpe,rfl⟩,⟨_,Ab Tryz.typeInfo93,rfl⟩,trivial⟩ (EvB.map trivial) rfl) (Arv (Cm (vs:=[v6,(.agg #[(iV (0)),(iV (0)),(nS)])]) (Bes r6 r7) Tryz.func29 rfl rfl ⟨rfl,rfl,trivial⟩ fun w8 ρ8 σ8 hc8=>?_))
 obtain ⟨hr8,hs8,b8_,hw8⟩:=hc8
 replace hr8:=hr8.symm; replace hs8:=hs8.symm; subst hr8 hs8 hw8
 refine Bmb (.bool (b8_)) (Cn (b8_) (fun b9=>?_) (fun b9=>?_))
 ·refine Ap (gN rfl b9) (Ap (gN rfl b9) (Ap (gN rfl b9) (l_v (Bt rfl b9 (v:=(.bool (true))) rfl) (Bmb (.bool (true)) (Ap (gN rfl rfl) (Ap (gN rfl rfl) (Ap (gN rfl rfl) (Ap (gN rfl rfl) (l_v (Bt rfl rfl (v:=(.bool (true))) rfl) (Bmb (.bool (true)) (Ap (gN rfl rfl) (Ap (gN rfl rfl) (Ap (gN rfl rfl) (Ap (gN rfl rfl) (l_v (Bt rfl rfl (v:=(.bool (true))) rfl) (l_k k5 (Co rfl rfl (w_q rfl rfl fun K10 k10=>Arv (Bm (Ato (Aud hg.g hnr)) Bpi rfl rfl trivial ?_)))))))))))))))))))
  refine Bma (.bool (true)) (l_k k10 (Aj (Brj (Brn l2 l3)) (Aq (hret _ _ _ ⟨rfl,rfl,eT (.bool (true)) ?_⟩))))
  rfl
 refine Ak (gY rfl b9) (Ax Asi rfl r2) fun v11 r11=>Ae (gY rfl b9) (Cm (vs:=[v11]) (Auu r11) Bql rfl rfl ⟨rfl,trivial⟩ fun w12 ρ12 σ12 hc12=>?_)
 obtain ⟨hr12,hs12,f12_,hw12,hz12⟩:=hc12
 replace hr12:=hr12.symm; replace hs12:=hs12.symm; subst hr12 hs12 hw12
 refine Aa (gY rfl b9) (Dg rfl rfl) (l_v (Bn rfl b9 (v:=(.bool (f12_ != 0))) rfl) (Bmb (.bool (f12_ != 0)) (Cn (f12_ != 0) (fun b13=>?_) (fun b13=>?_))))
 ·have q13:=Ls b13
  refine Ap (gN rfl b13) (Ap (gN rfl b13) (Ap (gN rfl b13) (Ap (gN rfl b13) (l_v (Bt rfl b13 (v:=(.bool (true))) rfl) (Bmb (.bool (true)) (Ap (gN rfl rfl) (Ap (gN rfl rfl) (Ap (gN rfl rfl) (Ap (gN rfl rfl) (l_v (Bt rfl rfl (v:=(.bool (true))) rfl) (l_k k5 (Co rfl rfl (w_q rfl rfl fun K14 k14=>Arv (Bm (Ato (Aud hg.g hnr)) Bpi rfl rfl trivial ?_))))))))))))))
  refine Bma (.bool (true)) (l_k k14 (Aj (Brj (Brn l2 l3)) (Aq (hret _ _ _ ⟨rfl,rfl,eT (.bool (true)) ?_⟩))))
  rfl
 have ok:=hz12 (Jh b13)
 have q13:=Jh b13
 refine Ak (gY rfl b13) (Ay Ditch.f_holders Bna rfl rfl Hw (by decide) rfl r2) fun v15 r15=>Ak (gY rfl b13) (Ax Hw rfl r15) fun v16 r16=>?_
 have g17:=Bro r16
 refine Aa (gY rfl b13) (Ci (el:=9) Bnd rfl r16) (Aa (gY rfl b13) (Ek rfl rfl) (l_v (Bn rfl b13 (v:=(.bool (((d.holders.length:Nat):Int) == 0))) rfl) (Bmb (.bool (((d.holders.length:Nat):Int) == 0)) (Cn (((d.holders.length:Nat):Int) == 0) (fun b18=>?_) (fun b18=>?_)))))
 ·have q18:=Jr b18
  refine Ap (gN rfl b18) (Ap (gN rfl b18) (Ap (gN rfl b18) (Ap (gN rfl b18) (l_v (Bt rfl b18 (v:=(.bool (true))) rfl) (l_k k5 (Co rfl rfl (w_q rfl rfl fun K19 k19=>Arv (Bm (Ato (Aud hg.g hnr)) Bpi rfl rfl trivial ?_))))))))
  refine Bma (.bool (true)) (l_k k19 (Aj (Brj (Brn l2 l3)) (Aq (hret _ _ _ ⟨rfl,rfl,eT (.bool (true)) ?_⟩))))
  rfl
 have q18:=Jq b18
 refine Ak (gY rfl b18) (Ay Ditch.f_holders Bna rfl rfl Hw (by decide) rfl r2) fun v20 r20=>Ak (gY rfl b18) (Ax Hw rfl r20) fun v21 r21=>?_
 have g22:=Bro r21
 refine Aa (gY rfl b18) (Ci (el:=9) Bnd rfl r21) (Aa (gY rfl b18) (Gl rfl rfl) (l_v (Bn rfl b18 (v:=(.bool (decide (((d.holders.length:Nat):Int) > 5)))) rfl) (l_k k5 (Up (t:=decide (((d.holders.length:Nat):Int) > 5)) rfl (fun b23=>?_) (fun b23=>?_)))))
 ·have q23:=of_decide_eq_true b23
  refine w_q rfl rfl fun K24 k24=>Arv (Bm (Ato (Aud hg.g hnr)) Bpi rfl rfl trivial ?_)
  refine Bma (.bool (true)) (l_k k24 (Aj (Brj (Brn l2 l3)) (Aq (hret _ _ _ ⟨rfl,rfl,eT (.bool (true)) ?_⟩))))
  rfl
 have h5:1 ≤ d.holders.length∧d.holders.length ≤ 5:=⟨by omega,by have:=of_decide_eq_false b23; omega⟩
 have q23:=of_decide_eq_false b23
 refine Al (k4 _ _ _ _ ?_)
 refine w_q rfl rfl fun K25 k25=>Bmb (.int .u32 ((from_:Int))) (l_v (Acf (p:=(from_:Int)) (z:=(from_:Int)) Bqc Bne rfl wrR) (l_v (Bdj (p:=(from_:Int)) (q:=999899999) rfl rfl (by omega) (z:=(((from_ % 999899999):Nat):Int)) rfl) ?_))
 obtain ⟨a,ha_⟩:∃ z:Nat,z = (from_ % 999899999):=⟨_,rfl⟩
 refine l_v (Cp (v:=(iV (a:Int))) ((show _ = Value.int .i64 ((((from_ % 999899999)):Nat):Int) from rfl).trans (by rw [ha_]))) ?_
 have ha9:a < 999899999:=by rw [ha_]; exact Nat.mod_lt _ (by omega)
 refine Arx rfl rfl k25 fun K26 k26=>Bmb (iV ((a:Int))) (Bmb (.int .u32 ((long:Int))) (l_v (Acf (p:=(long:Int)) (z:=(long:Int)) Bqc Bne rfl wrR) (l_v (Bdj (p:=(long:Int)) (q:=100001) rfl rfl (by omega) (z:=(((long % 100001):Nat):Int)) rfl) (l_v (Br rfl rfl (z:=(((a + (long % 100001)):Nat):Int)) wrE) ?_))))
 obtain ⟨b,hb_⟩:∃ z:Nat,z = (a + (long % 100001)):=⟨_,rfl⟩
 refine l_v (Cp (v:=(iV (b:Int))) ((show _ = Value.int .i64 ((((a + (long % 100001))):Nat):Int) from rfl).trans (by rw [hb_]))) ?_
 have hb9:a ≤ b∧b ≤ a + 100000:=by have:=Nat.mod_lt long (show 0 < 100001 by omega); rw [hb_]; omega
 refine Ary rfl rfl k26 fun K27 K28 k27 k28=>Arw (Ax Asi rfl r2) fun v29 r29=>Bmb (iV ((a:Int))) (Bmb (iV ((b:Int))) (Arv (Cm (vs:=[v29,(iV ((a:Int))),(iV ((b:Int)))]) (Avt (d:=d) hg hnr r29 ok h5 ⟨by omega,by omega⟩ (by omega) (by omega)) Bqm rfl rfl ⟨rfl,rfl,rfl,trivial⟩ fun w31 ρ31 σ31 hc31=>?_)))
 obtain ⟨l31,s31,hw31⟩:=hc31
 replace s31:=s31.symm; subst s31 hw31
 replace hg:=GlobT.mono l31 hg
 replace r2:=At.mono l31 r2
 replace r3:=At.mono l31 r3
 refine l_v (Iy rfl) (l_k k28 (Cg rfl (not_t rfl) (Al (k27 _ _ _ _ ?_))))
 refine w_q rfl rfl fun K32 k32=>Arw (Ax Asi rfl r2) fun v33 r33=>Arv (Ct Blh fun k34=>?_)
 obtain ⟨c35_0,c35_1,c35_2,c35_3,c35_4,c35_5,e35_,i35_1,i35_2,⟨i35_3a,i35_3b⟩,⟨i35_4a,i35_4b⟩,⟨i35_5a,i35_5b⟩,⟨i35_6a,i35_6b⟩,i35_7,i35_8,i35_9,⟨i35_10a,i35_10b⟩,⟨i35_11a,i35_11b⟩,⟨i35_12a,i35_12b⟩,⟨i35_13a,i35_13b⟩,i35_14⟩:=Ditch.open_ r33
 have e35_c:v33.cells = [c35_0,c35_1,(iV (d.begin_)),(iV (d.week)),(iV (d.restFrom)),(iV (d.restLong)),c35_2,c35_3,c35_4,(iV (d.flow.low)),(iV (d.flow.high)),(iV (d.loss.low)),(iV (d.loss.high)),c35_5].toArray:=by rw [e35_]; rfl
 refine Cx rfl (Li (i:=0) (vs:=[c35_0,c35_1,(iV (d.begin_)),(iV (d.week)),(iV (d.restFrom)),(iV (d.restLong)),c35_2,c35_3,c35_4,(iV (d.flow.low)),(iV (d.flow.high)),(iV (d.loss.low)),(iV (d.loss.high)),c35_5]) (c':=[c35_0,c35_1,(iV (d.begin_)),(iV (d.week)),(iV (d.restFrom)),(iV (d.restLong)),c35_2,c35_3,c35_4,(iV (d.flow.low)),(iV (d.flow.high)),(iV (d.loss.low)),(iV (d.loss.high)),c35_5]) ⟨_,Ab Box,rfl⟩ rfl rfl e35_c rfl (Zh ⟨(Val.single_l i35_1),(Val.single_l i35_2),rfl,rfl,rfl,rfl,(Val.single_l i35_7),(Val.single_l i35_8),(Val.single_l i35_9),rfl,rfl,rfl,rfl,(Val.single_l i35_14),trivial⟩) rfl (Nat.le_of_ble_eq_true rfl) rfl ?_)
 refine Asa k32 fun K36 k36=>Bmw (Bms 1 [o0,o1,o0,o0,o0,o0,o0,o0,o0] rfl (Ay Ditch.f_loans Bna rfl rfl Atk (by decide) rfl r2) fun v37 r37=>Bms 2 [o0,o1,o1,o0,o0,o0,o0,o0,o0] rfl (Ax Atk rfl r37) fun v38 r38=>Bms 4 [o0,o1,o1,o0,o1,o0,o0,o0,o0] rfl (Ax Atx rfl r3) fun v39 r39=>Acq (i:=0) (j:=5) [o1,o1,o1,o0,o1,o0,o0,o0,o0] [o0,o1,o1,o0,o1,o1,o0,o0,o0] rfl rfl (by kernel_rfl) rfl rfl rfl rfl ?_ ?_)
 ·refine Bi (α:=WLoan) (xs:=[]) (vs:=[]) Bnk Atx Awd rfl (by decide) rfl trivial rfl (by decide) fun k40 cs40 R40=>⟨Brm,?_⟩
  have G40:Grow ρ31 90 (.slice (some ⟨k40,0,none⟩) 0 0) ([]:List WLoan) [(k40,oC cs40.toArray 90)]:=Bs R40 rfl (by decide)
  refine Acq (i:=3) (j:=5) Aor [o1,o1,o1,o0,o1,o1,o0,o0,o0] rfl rfl (by kernel_rfl) rfl rfl rfl rfl ?_ ?_
  ·refine Gc (σ:=((k34,oC #[c35_0,c35_1,(iV (d.begin_)),(iV (d.week)),(iV (d.restFrom)),(iV (d.restLong)),c35_2,c35_3,c35_4,(iV (d.flow.low)),(iV (d.flow.high)),(iV (d.loss.low)),(iV (d.loss.high)),c35_5] 88) :: σ)) (gr:=[(k40,oC cs40.toArray 90)]) (xs:=([]:List WLoan)) (ys:=d.loans) Bnk Bnk (Ab Bph) rfl (Nat.le_of_ble_eq_true rfl) rfl rfl rfl rfl G40 r38 (by have:=ok.nloans; simp only [List.length_append,List.length_cons,List.length_nil] at *; omega) fun v41 gr41 G41=>⟨Brm,?_⟩
   refine Bmt 5 zZ7 rfl (Bi (α:=WLoan) (xs:=[l]) (vs:=[v39]) Bnk Atx Awd rfl (by decide) (Dk (os:=[.tmp 51]) ⟨rfl,trivial⟩) ⟨r39,trivial⟩ rfl (by decide) fun k42 cs42 R42=>⟨Brm,?_⟩)
   have G42:Grow ρ31 90 (.slice (some ⟨k42,0,none⟩) 1 1) ([l]:List WLoan) [(k42,oC cs42.toArray 90)]:=Bs R42 rfl (by decide)
   refine Lr G42 fun ρ44 l44 r44=>?_
   replace hg:=GlobT.mono l44 hg
   replace i35_1:=Brp l44 i35_1
   replace i35_2:=Brp l44 i35_2
   replace i35_7:=Brp l44 i35_7
   replace i35_8:=Brp l44 i35_8
   replace i35_14:=Brp l44 i35_14
   replace G41:=Brl l44 G41
   refine Bmt 6 zZ8 rfl (Gc (σ:=((k34,oC #[c35_0,c35_1,(iV (d.begin_)),(iV (d.week)),(iV (d.restFrom)),(iV (d.restLong)),c35_2,c35_3,c35_4,(iV (d.flow.low)),(iV (d.flow.high)),(iV (d.loss.low)),(iV (d.loss.high)),c35_5] 88) :: σ)) (gr:=gr41) (xs:=(([]:List WLoan) ++ d.loans)) (ys:=([l]:List WLoan)) Bnk Bnk (Ab Bph) rfl (Nat.le_of_ble_eq_true rfl) rfl rfl rfl rfl G41 r44 (by have:=ok.nloans; simp only [List.length_append,List.length_cons,List.length_nil] at *; omega) fun v43 gr43 G43=>⟨l44,?_⟩)
   refine Bmd 7 zZ9 rfl l44 rfl (Cb Bna rfl rfl ⟨_,Ab Bpm,rfl⟩ (by decide) rfl rfl) (Ej (Brk Asd) id (Bmv 8 Ajy rfl (Cz (j:=0) (v:=v43) ⟨_,Ab Bpm,rfl⟩ rfl rfl (Grow.single G43) rfl (Nat.le_of_ble_eq_true rfl) ⟨l44,?_⟩)))
   refine Ec rfl (k36 _ _ _ _ ?_)
   refine Asb rfl rfl fun K45 K46 k45 k46=>Bj (Brk Asw) (Ca G43 fun ρ47 l47 r47=>?_)
   replace hg:=GlobT.mono l47 hg
   replace i35_1:=Brp l47 i35_1
   replace i35_2:=Brp l47 i35_2
   replace i35_7:=Brp l47 i35_7
   replace i35_8:=Brp l47 i35_8
   replace i35_14:=Brp l47 i35_14
   refine Arv (Xo (i:=0) (cs:=[c35_0,c35_1,(iV (d.begin_)),(iV (d.week)),(iV (d.restFrom)),(iV (d.restLong)),c35_2,c35_3,v43,(iV (d.flow.low)),(iV (d.flow.high)),(iV (d.loss.low)),(iV (d.loss.high)),c35_5]) (rs:=[]) ⟨_,Bna,rfl⟩ ⟨_,Ab Box,rfl⟩ rfl rfl rfl rfl ?_)
   have r48:Val ρ47 (.agg #[c35_0,c35_1,(iV (d.begin_)),(iV (d.week)),(iV (d.restFrom)),(iV (d.restLong)),c35_2,c35_3,v43,(iV (d.flow.low)),(iV (d.flow.high)),(iV (d.loss.low)),(iV (d.loss.high)),c35_5]) (⟨d.holders,d.turns,d.begin_,d.week,d.restFrom,d.restLong,d.feasts,d.swaps,((([]:List WLoan) ++ d.loans) ++ ([l]:List WLoan)),⟨d.flow.low,d.flow.high⟩,⟨d.loss.low,d.loss.high⟩,d.plots⟩:Ditch):=Ditch.shut (x:=(⟨d.holders,d.turns,d.begin_,d.week,d.restFrom,d.restLong,d.feasts,d.swaps,((([]:List WLoan) ++ d.loans) ++ ([l]:List WLoan)),⟨d.flow.low,d.flow.high⟩,⟨d.loss.low,d.loss.high⟩,d.plots⟩:Ditch)) i35_1 i35_2 (show I64 (d.begin_) from by constructor <;> omega) (show I64 (d.week) from by constructor <;> omega) (show I64 (d.restFrom) from by constructor <;> omega) (show I64 (d.restLong) from by constructor <;> omega) i35_7 i35_8 r47 (show I64 (d.flow.low) from by constructor <;> omega) (show I64 (d.flow.high) from by constructor <;> omega) (show I64 (d.loss.low) from by constructor <;> omega) (show I64 (d.loss.high) from by constructor <;> omega) i35_14
   refine Arv (Cm (vs:=[(.agg #[c35_0,c35_1,(iV (d.begin_)),(iV (d.week)),(iV (d.restFrom)),(iV (d.restLong)),c35_2,c35_3,v43,(iV (d.flow.low)),(iV (d.flow.high)),(iV (d.loss.low)),(iV (d.loss.high)),c35_5])]) (Auu r48) Bql rfl rfl ⟨rfl,trivial⟩ fun w49 ρ49 σ49 hc49=>?_)
   obtain ⟨hr49,hs49,f49_,hw49,hz49⟩:=hc49
   replace hr49:=hr49.symm; replace hs49:=hs49.symm; subst hr49 hs49 hw49
   refine l_v (Dg rfl rfl) (l_k k46 (Up (t:=f49_ != 0) rfl (fun b50=>?_) (fun b50=>?_)))
   ·have q50:=Ls b50
    refine w_q rfl rfl fun K51 k51=>Arv (Bm (Ato (Aud hg.g (Asz hnr))) Bpi rfl rfl trivial ?_)
    refine Bma (.bool (true)) (l_k k51 (Aj Bri (Aj (Brj (Brn (Brn (Brn (Brn l2 l3) l31) l44) l47)) (Aq (hret _ _ _ ⟨rfl,rfl,eT (.bool (true)) ?_⟩)))))
    rfl
   have oko:=hz49 (Jh b50)
   have q50:=Jh b50
   refine Al (k45 _ _ _ _ ?_)
   refine w_q rfl rfl fun K52 k52=>Arv (Xo (i:=0) (cs:=[c35_0,c35_1,(iV (d.begin_)),(iV (d.week)),(iV (d.restFrom)),(iV (d.restLong)),c35_2,c35_3,v43,(iV (d.flow.low)),(iV (d.flow.high)),(iV (d.loss.low)),(iV (d.loss.high)),c35_5]) (rs:=[]) ⟨_,Bna,rfl⟩ ⟨_,Ab Box,rfl⟩ rfl rfl rfl rfl ?_)
   have r53:Val ρ47 (.agg #[c35_0,c35_1,(iV (d.begin_)),(iV (d.week)),(iV (d.restFrom)),(iV (d.restLong)),c35_2,c35_3,v43,(iV (d.flow.low)),(iV (d.flow.high)),(iV (d.loss.low)),(iV (d.loss.high)),c35_5]) (⟨d.holders,d.turns,d.begin_,d.week,d.restFrom,d.restLong,d.feasts,d.swaps,((([]:List WLoan) ++ d.loans) ++ ([l]:List WLoan)),⟨d.flow.low,d.flow.high⟩,⟨d.loss.low,d.loss.high⟩,d.plots⟩:Ditch):=Ditch.shut (x:=(⟨d.holders,d.turns,d.begin_,d.week,d.restFrom,d.restLong,d.feasts,d.swaps,((([]:List WLoan) ++ d.loans) ++ ([l]:List WLoan)),⟨d.flow.low,d.flow.high⟩,⟨d.loss.low,d.loss.high⟩,d.plots⟩:Ditch)) i35_1 i35_2 (show I64 (d.begin_) from by constructor <;> omega) (show I64 (d.week) from by constructor <;> omega) (show I64 (d.restFrom) from by constructor <;> omega) (show I64 (d.restLong) from by constructor <;> omega) i35_7 i35_8 r47 (show I64 (d.flow.low) from by constructor <;> omega) (show I64 (d.flow.high) from by constructor <;> omega) (show I64 (d.loss.low) from by constructor <;> omega) (show I64 (d.loss.high) from by constructor <;> omega) i35_14
   refine Bmb (iV ((a:Int))) (Bmb (iV ((b:Int))) (Arv (Cm (vs:=[(.agg #[c35_0,c35_1,(iV (d.begin_)),(iV (d.week)),(iV (d.restFrom)),(iV (d.restLong)),c35_2,c35_3,v43,(iV (d.flow.low)),(iV (d.flow.high)),(iV (d.loss.low)),(iV (d.loss.high)),c35_5]),(iV ((a:Int))),(iV ((b:Int)))]) (Avt (d:=((⟨d.holders,d.turns,d.begin_,d.week,d.restFrom,d.restLong,d.feasts,d.swaps,((([]:List WLoan) ++ d.loans) ++ ([l]:List WLoan)),⟨d.flow.low,d.flow.high⟩,⟨d.loss.low,d.loss.high⟩,d.plots⟩:Ditch))) hg (Asz hnr) r53 oko h5 ⟨by omega,by omega⟩ (by omega) (by omega)) Bqm rfl rfl ⟨rfl,rfl,rfl,trivial⟩ fun w55 ρ55 σ55 hc55=>?_)))
   obtain ⟨l55,s55,hw55⟩:=hc55
   replace s55:=s55.symm; subst s55 hw55
   replace hg:=GlobT.mono l55 hg
   refine Bmb (.bool (true)) (Ae (gY rfl rfl) (Bm (Ato (Aud hg.g (Asz hnr))) Bpi rfl rfl trivial ?_))
   refine l_v (Bt rfl rfl (v:=(.bool (true))) rfl) (Bma (.bool (true)) (l_k k52 (Aj Bri (Aj (Brj (Brn (Brn (Brn (Brn (Brn l2 l3) l31) l44) l47) l55)) (Aq (hret _ _ _ ⟨rfl,rfl,eT (.bool (true)) ?_⟩))))))
   rfl
  ·refine Bi (α:=WLoan) (xs:=[l]) (vs:=[v39]) Bnk Atx Awd rfl (by decide) (Dk (os:=[.tmp 51]) ⟨rfl,trivial⟩) ⟨r39,trivial⟩ rfl (by decide) fun k56 cs56 R56=>⟨Brm,?_⟩
   have G56:Grow ρ31 90 (.slice (some ⟨k56,0,none⟩) 1 1) ([l]:List WLoan) [(k56,oC cs56.toArray 90)]:=Bs R56 rfl (by decide)
   refine Ej (Brk Arz) id (Bmt 3 zZ7 rfl (Gc (σ:=([(k56,oC cs56.toArray 90)] ++ ((k34,oC #[c35_0,c35_1,(iV (d.begin_)),(iV (d.week)),(iV (d.restFrom)),(iV (d.restLong)),c35_2,c35_3,c35_4,(iV (d.flow.low)),(iV (d.flow.high)),(iV (d.loss.low)),(iV (d.loss.high)),c35_5] 88) :: σ))) (gr:=[(k40,oC cs40.toArray 90)]) (xs:=([]:List WLoan)) (ys:=d.loans) Bnk Bnk (Ab Bph) rfl (Nat.le_of_ble_eq_true rfl) rfl rfl rfl rfl G40 r38 (by have:=ok.nloans; simp only [List.length_append,List.length_cons,List.length_nil] at *; omega) fun v57 gr57 G57=>⟨Brm,?_⟩))
   refine Ej (Brk Asd) id (Lr G56 fun ρ59 l59 r59=>?_)
   replace hg:=GlobT.mono l59 hg
   replace i35_1:=Brp l59 i35_1
   replace i35_2:=Brp l59 i35_2
   replace i35_7:=Brp l59 i35_7
   replace i35_8:=Brp l59 i35_8
   replace i35_14:=Brp l59 i35_14
   replace G57:=Brl l59 G57
   refine Bmt 6 zZ8 rfl (Gc (σ:=((k34,oC #[c35_0,c35_1,(iV (d.begin_)),(iV (d.week)),(iV (d.restFrom)),(iV (d.restLong)),c35_2,c35_3,c35_4,(iV (d.flow.low)),(iV (d.flow.high)),(iV (d.loss.low)),(iV (d.loss.high)),c35_5] 88) :: σ)) (gr:=gr57) (xs:=(([]:List WLoan) ++ d.loans)) (ys:=([l]:List WLoan)) Bnk Bnk (Ab Bph) rfl (Nat.le_of_ble_eq_true rfl) rfl rfl rfl rfl G57 r59 (by have:=ok.nloans; simp only [List.length_append,List.length_cons,List.length_nil] at *; omega) fun v58 gr58 G58=>⟨l59,?_⟩)
   refine Bmd 7 zZ9 rfl l59 rfl (Cb Bna rfl rfl ⟨_,Ab Bpm,rfl⟩ (by decide) rfl rfl) (Ej (Brk Asd) id (Bmv 8 Ajy rfl (Cz (j:=0) (v:=v58) ⟨_,Ab Bpm,rfl⟩ rfl rfl (Grow.single G58) rfl (Nat.le_of_ble_eq_true rfl) ⟨l59,?_⟩)))
   refine Ec rfl (k36 _ _ _ _ ?_)
   refine Asb rfl rfl fun K60 K61 k60 k61=>Bj (Brk Asw) (Ca G58 fun ρ62 l62 r62=>?_)
   replace hg:=GlobT.mono l62 hg
   replace i35_1:=Brp l62 i35_1
   replace i35_2:=Brp l62 i35_2
   replace i35_7:=Brp l62 i35_7
   replace i35_8:=Brp l62 i35_8
   replace i35_14:=Brp l62 i35_14
   refine Arv (Xo (i:=0) (cs:=[c35_0,c35_1,(iV (d.begin_)),(iV (d.week)),(iV (d.restFrom)),(iV (d.restLong)),c35_2,c35_3,v58,(iV (d.flow.low)),(iV (d.flow.high)),(iV (d.loss.low)),(iV (d.loss.high)),c35_5]) (rs:=[]) ⟨_,Bna,rfl⟩ ⟨_,Ab Box,rfl⟩ rfl rfl rfl rfl ?_)
   have r63:Val ρ62 (.agg #[c35_0,c35_1,(iV (d.begin_)),(iV (d.week)),(iV (d.restFrom)),(iV (d.restLong)),c35_2,c35_3,v58,(iV (d.flow.low)),(iV (d.flow.high)),(iV (d.loss.low)),(iV (d.loss.high)),c35_5]) (⟨d.holders,d.turns,d.begin_,d.week,d.restFrom,d.restLong,d.feasts,d.swaps,((([]:List WLoan) ++ d.loans) ++ ([l]:List WLoan)),⟨d.flow.low,d.flow.high⟩,⟨d.loss.low,d.loss.high⟩,d.plots⟩:Ditch):=Ditch.shut (x:=(⟨d.holders,d.turns,d.begin_,d.week,d.restFrom,d.restLong,d.feasts,d.swaps,((([]:List WLoan) ++ d.loans) ++ ([l]:List WLoan)),⟨d.flow.low,d.flow.high⟩,⟨d.loss.low,d.loss.high⟩,d.plots⟩:Ditch)) i35_1 i35_2 (show I64 (d.begin_) from by constructor <;> omega) (show I64 (d.week) from by constructor <;> omega) (show I64 (d.restFrom) from by constructor <;> omega) (show I64 (d.restLong) from by constructor <;> omega) i35_7 i35_8 r62 (show I64 (d.flow.low) from by constructor <;> omega) (show I64 (d.flow.high) from by constructor <;> omega) (show I64 (d.loss.low) from by constructor <;> omega) (show I64 (d.loss.high) from by constructor <;> omega) i35_14
   refine Arv (Cm (vs:=[(.agg #[c35_0,c35_1,(iV (d.begin_)),(iV (d.week)),(iV (d.restFrom)),(iV (d.restLong)),c35_2,c35_3,v58,(iV (d.flow.low)),(iV (d.flow.high)),(iV (d.loss.low)),(iV (d.loss.high)),c35_5])]) (Auu r63) Bql rfl rfl ⟨rfl,trivial⟩ fun w64 ρ64 σ64 hc64=>?_)
   obtain ⟨hr64,hs64,f64_,hw64,hz64⟩:=hc64
   replace hr64:=hr64.symm; replace hs64:=hs64.symm; subst hr64 hs64 hw64
   refine l_v (Dg rfl rfl) (l_k k61 (Up (t:=f64_ != 0) rfl (fun b65=>?_) (fun b65=>?_)))
   ·have q65:=Ls b65
    refine w_q rfl rfl fun K66 k66=>Arv (Bm (Ato (Aud hg.g (Asz hnr))) Bpi rfl rfl trivial ?_)
    refine Bma (.bool (true)) (l_k k66 (Aj Bri (Aj (Brj (Brn (Brn (Brn (Brn l2 l3) l31) l59) l62)) (Aq (hret _ _ _ ⟨rfl,rfl,eT (.bool (true)) ?_⟩)))))
    rfl
   have oko:=hz64 (Jh b65)
   have q65:=Jh b65
   refine Al (k60 _ _ _ _ ?_)
   refine w_q rfl rfl fun K67 k67=>Arv (Xo (i:=0) (cs:=[c35_0,c35_1,(iV (d.begin_)),(iV (d.week)),(iV (d.restFrom)),(iV (d.restLong)),c35_2,c35_3,v58,(iV (d.flow.low)),(iV (d.flow.high)),(iV (d.loss.low)),(iV (d.loss.high)),c35_5]) (rs:=[]) ⟨_,Bna,rfl⟩ ⟨_,Ab Box,rfl⟩ rfl rfl rfl rfl ?_)
   have r68:Val ρ62 (.agg #[c35_0,c35_1,(iV (d.begin_)),(iV (d.week)),(iV (d.restFrom)),(iV (d.restLong)),c35_2,c35_3,v58,(iV (d.flow.low)),(iV (d.flow.high)),(iV (d.loss.low)),(iV (d.loss.high)),c35_5]) (⟨d.holders,d.turns,d.begin_,d.week,d.restFrom,d.restLong,d.feasts,d.swaps,((([]:List WLoan) ++ d.loans) ++ ([l]:List WLoan)),⟨d.flow.low,d.flow.high⟩,⟨d.loss.low,d.loss.high⟩,d.plots⟩:Ditch):=Ditch.shut (x:=(⟨d.holders,d.turns,d.begin_,d.week,d.restFrom,d.restLong,d.feasts,d.swaps,((([]:List WLoan) ++ d.loans) ++ ([l]:List WLoan)),⟨d.flow.low,d.flow.high⟩,⟨d.loss.low,d.loss.high⟩,d.plots⟩:Ditch)) i35_1 i35_2 (show I64 (d.begin_) from by constructor <;> omega) (show I64 (d.week) from by constructor <;> omega) (show I64 (d.restFrom) from by constructor <;> omega) (show I64 (d.restLong) from by constructor <;> omega) i35_7 i35_8 r62 (show I64 (d.flow.low) from by constructor <;> omega) (show I64 (d.flow.high) from by constructor <;> omega) (show I64 (d.loss.low) from by constructor <;> omega) (show I64 (d.loss.high) from by constructor <;> omega) i35_14
   refine Bmb (iV ((a:Int))) (Bmb (iV ((b:Int))) (Arv (Cm (vs:=[(.agg #[c35_0,c35_1,(iV (d.begin_)),(iV (d.week)),(iV (d.restFrom)),(iV (d.restLong)),c35_2,c35_3,v58,(iV (d.flow.low)),(iV (d.flow.high)),(iV (d.loss.low)),(iV (d.loss.high)),c35_5]),(iV ((a:Int))),(iV ((b:Int)))]) (Avt (d:=((⟨d.holders,d.turns,d.begin_,d.week,d.restFrom,d.restLong,d.feasts,d.swaps,((([]:List WLoan) ++ d.loans) ++ ([l]:List WLoan)),⟨d.flow.low,d.flow.high⟩,⟨d.loss.low,d.loss.high⟩,d.plots⟩:Ditch))) hg (Asz hnr) r68 oko h5 ⟨by omega,by omega⟩ (by omega) (by omega)) Bqm rfl rfl ⟨rfl,rfl,rfl,trivial⟩ fun w70 ρ70 σ70 hc70=>?_)))
   obtain ⟨l70,s70,hw70⟩:=hc70
   replace s70:=s70.symm; subst s70 hw70
   replace hg:=GlobT.mono l70 hg
   refine Bmb (.bool (true)) (Ae (gY rfl rfl) (Bm (Ato (Aud hg.g (Asz hnr))) Bpi rfl rfl trivial ?_))
   refine l_v (Bt rfl rfl (v:=(.bool (true))) rfl) (Bma (.bool (true)) (l_k k67 (Aj Bri (Aj (Brj (Brn (Brn (Brn (Brn (Brn l2 l3) l31) l59) l62) l70)) (Aq (hret _ _ _ ⟨rfl,rfl,eT (.bool (true)) ?_⟩))))))
   rfl
 ·refine Bi (α:=WLoan) (xs:=[l]) (vs:=[v39]) Bnk Atx Awd rfl (by decide) (Dk (os:=[.tmp 51]) ⟨rfl,trivial⟩) ⟨r39,trivial⟩ rfl (by decide) fun k71 cs71 R71=>⟨Brm,?_⟩
  have G71:Grow ρ31 90 (.slice (some ⟨k71,0,none⟩) 1 1) ([l]:List WLoan) [(k71,oC cs71.toArray 90)]:=Bs R71 rfl (by decide)
  refine Bmt 0 [o1,o1,o1,o0,o1,o1,o0,o0,o0] rfl (Bi (α:=WLoan) (xs:=[]) (vs:=[]) Bnk Atx Awd rfl (by decide) rfl trivial rfl (by decide) fun k72 cs72 R72=>⟨Brm,?_⟩)
  have G72:Grow ρ31 90 (.slice (some ⟨k72,0,none⟩) 0 0) ([]:List WLoan) [(k72,oC cs72.toArray 90)]:=Bs R72 rfl (by decide)
  refine Bmt 3 zZ7 rfl (Gc (σ:=([(k71,oC cs71.toArray 90)] ++ ((k34,oC #[c35_0,c35_1,(iV (d.begin_)),(iV (d.week)),(iV (d.restFrom)),(iV (d.restLong)),c35_2,c35_3,c35_4,(iV (d.flow.low)),(iV (d.flow.high)),(iV (d.loss.low)),(iV (d.loss.high)),c35_5] 88) :: σ))) (gr:=[(k72,oC cs72.toArray 90)]) (xs:=([]:List WLoan)) (ys:=d.loans) Bnk Bnk (Ab Bph) rfl (Nat.le_of_ble_eq_true rfl) rfl rfl rfl rfl G72 r38 (by have:=ok.nloans; simp only [List.length_append,List.length_cons,List.length_nil] at *; omega) fun v73 gr73 G73=>⟨Brm,?_⟩)
  refine Ej (Brk Asd) id (Lr G71 fun ρ75 l75 r75=>?_)
  replace hg:=GlobT.mono l75 hg
  replace i35_1:=Brp l75 i35_1
  replace i35_2:=Brp l75 i35_2
  replace i35_7:=Brp l75 i35_7
  replace i35_8:=Brp l75 i35_8
  replace i35_14:=Brp l75 i35_14
  replace G73:=Brl l75 G73
  refine Bmt 6 zZ8 rfl (Gc (σ:=((k34,oC #[c35_0,c35_1,(iV (d.begin_)),(iV (d.week)),(iV (d.restFrom)),(iV (d.restLong)),c35_2,c35_3,c35_4,(iV (d.flow.low)),(iV (d.flow.high)),(iV (d.loss.low)),(iV (d.loss.high)),c35_5] 88) :: σ)) (gr:=gr73) (xs:=(([]:List WLoan) ++ d.loans)) (ys:=([l]:List WLoan)) Bnk Bnk (Ab Bph) rfl (Nat.le_of_ble_eq_true rfl) rfl rfl rfl rfl G73 r75 (by have:=ok.nloans; simp only [List.length_append,List.length_cons,List.length_nil] at *; omega) fun v74 gr74 G74=>⟨l75,?_⟩)
  refine Bmd 7 zZ9 rfl l75 rfl (Cb Bna rfl rfl ⟨_,Ab Bpm,rfl⟩ (by decide) rfl rfl) (Ej (Brk Asd) id (Bmv 8 Ajy rfl (Cz (j:=0) (v:=v74) ⟨_,Ab Bpm,rfl⟩ rfl rfl (Grow.single G74) rfl (Nat.le_of_ble_eq_true rfl) ⟨l75,?_⟩)))
  refine Ec rfl (k36 _ _ _ _ ?_)
  refine Asb rfl rfl fun K76 K77 k76 k77=>Bj (Brk Asw) (Ca G74 fun ρ78 l78 r78=>?_)
  replace hg:=GlobT.mono l78 hg
  replace i35_1:=Brp l78 i35_1
  replace i35_2:=Brp l78 i35_2
  replace i35_7:=Brp l78 i35_7
  replace i35_8:=Brp l78 i35_8
  replace i35_14:=Brp l78 i35_14
  refine Arv (Xo (i:=0) (cs:=[c35_0,c35_1,(iV (d.begin_)),(iV (d.week)),(iV (d.restFrom)),(iV (d.restLong)),c35_2,c35_3,v74,(iV (d.flow.low)),(iV (d.flow.high)),(iV (d.loss.low)),(iV (d.loss.high)),c35_5]) (rs:=[]) ⟨_,Bna,rfl⟩ ⟨_,Ab Box,rfl⟩ rfl rfl rfl rfl ?_)
  have r79:Val ρ78 (.agg #[c35_0,c35_1,(iV (d.begin_)),(iV (d.week)),(iV (d.restFrom)),(iV (d.restLong)),c35_2,c35_3,v74,(iV (d.flow.low)),(iV (d.flow.high)),(iV (d.loss.low)),(iV (d.loss.high)),c35_5]) (⟨d.holders,d.turns,d.begin_,d.week,d.restFrom,d.restLong,d.feasts,d.swaps,((([]:List WLoan) ++ d.loans) ++ ([l]:List WLoan)),⟨d.flow.low,d.flow.high⟩,⟨d.loss.low,d.loss.high⟩,d.plots⟩:Ditch):=Ditch.shut (x:=(⟨d.holders,d.turns,d.begin_,d.week,d.restFrom,d.restLong,d.feasts,d.swaps,((([]:List WLoan) ++ d.loans) ++ ([l]:List WLoan)),⟨d.flow.low,d.flow.high⟩,⟨d.loss.low,d.loss.high⟩,d.plots⟩:Ditch)) i35_1 i35_2 (show I64 (d.begin_) from by constructor <;> omega) (show I64 (d.week) from by constructor <;> omega) (show I64 (d.restFrom) from by constructor <;> omega) (show I64 (d.restLong) from by constructor <;> omega) i35_7 i35_8 r78 (show I64 (d.flow.low) from by constructor <;> omega) (show I64 (d.flow.high) from by constructor <;> omega) (show I64 (d.loss.low) from by constructor <;> omega) (show I64 (d.loss.high) from by constructor <;> omega) i35_14
  refine Arv (Cm (vs:=[(.agg #[c35_0,c35_1,(iV (d.begin_)),(iV (d.week)),(iV (d.restFrom)),(iV (d.restLong)),c35_2,c35_3,v74,(iV (d.flow.low)),(iV (d.flow.high)),(iV (d.loss.low)),(iV (d.loss.high)),c35_5])]) (Auu r79) Bql rfl rfl ⟨rfl,trivial⟩ fun w80 ρ80 σ80 hc80=>?_)
  obtain ⟨hr80,hs80,f80_,hw80,hz80⟩:=hc80
  replace hr80:=hr80.symm; replace hs80:=hs80.symm; subst hr80 hs80 hw80
  refine l_v (Dg rfl rfl) (l_k k77 (Up (t:=f80_ != 0) rfl (fun b81=>?_) (fun b81=>?_)))
  ·have q81:=Ls b81
   refine w_q rfl rfl fun K82 k82=>Arv (Bm (Ato (Aud hg.g (Asz hnr))) Bpi rfl rfl trivial ?_)
   refine Bma (.bool (true)) (l_k k82 (Aj Bri (Aj (Brj (Brn (Brn (Brn (Brn l2 l3) l31) l75) l78)) (Aq (hret _ _ _ ⟨rfl,rfl,eT (.bool (true)) ?_⟩)))))
   rfl
  have oko:=hz80 (Jh b81)
  have q81:=Jh b81
  refine Al (k76 _ _ _ _ ?_)
  refine w_q rfl rfl fun K83 k83=>Arv (Xo (i:=0) (cs:=[c35_0,c35_1,(iV (d.begin_)),(iV (d.week)),(iV (d.restFrom)),(iV (d.restLong)),c35_2,c35_3,v74,(iV (d.flow.low)),(iV (d.flow.high)),(iV (d.loss.low)),(iV (d.loss.high)),c35_5]) (rs:=[]) ⟨_,Bna,rfl⟩ ⟨_,Ab Box,rfl⟩ rfl rfl rfl rfl ?_)
  have r84:Val ρ78 (.agg #[c35_0,c35_1,(iV (d.begin_)),(iV (d.week)),(iV (d.restFrom)),(iV (d.restLong)),c35_2,c35_3,v74,(iV (d.flow.low)),(iV (d.flow.high)),(iV (d.loss.low)),(iV (d.loss.high)),c35_5]) (⟨d.holders,d.turns,d.begin_,d.week,d.restFrom,d.restLong,d.feasts,d.swaps,((([]:List WLoan) ++ d.loans) ++ ([l]:List WLoan)),⟨d.flow.low,d.flow.high⟩,⟨d.loss.low,d.loss.high⟩,d.plots⟩:Ditch):=Ditch.shut (x:=(⟨d.holders,d.turns,d.begin_,d.week,d.restFrom,d.restLong,d.feasts,d.swaps,((([]:List WLoan) ++ d.loans) ++ ([l]:List WLoan)),⟨d.flow.low,d.flow.high⟩,⟨d.loss.low,d.loss.high⟩,d.plots⟩:Ditch)) i35_1 i35_2 (show I64 (d.begin_) from by constructor <;> omega) (show I64 (d.week) from by constructor <;> omega) (show I64 (d.restFrom) from by constructor <;> omega) (show I64 (d.restLong) from by constructor <;> omega) i35_7 i35_8 r78 (show I64 (d.flow.low) from by constructor <;> omega) (show I64 (d.flow.high) from by constructor <;> omega) (show I64 (d.loss.low) from by constructor <;> omega) (show I64 (d.loss.high) from by constructor <;> omega) i35_14
  refine Bmb (iV ((a:Int))) (Bmb (iV ((b:Int))) (Arv (Cm (vs:=[(.agg #[c35_0,c35_1,(iV (d.begin_)),(iV (d.week)),(iV (d.restFrom)),(iV (d.restLong)),c35_2,c35_3,v74,(iV (d.flow.low)),(iV (d.flow.high)),(iV (d.loss.low)),(iV (d.loss.high)),c35_5]),(iV ((a:Int))),(iV ((b:Int)))]) (Avt (d:=((⟨d.holders,d.turns,d.begin_,d.week,d.restFrom,d.restLong,d.feasts,d.swaps,((([]:List WLoan) ++ d.loans) ++ ([l]:List WLoan)),⟨d.flow.low,d.flow.high⟩,⟨d.loss.low,d.loss.high⟩,d.plots⟩:Ditch))) hg (Asz hnr) r84 oko h5 ⟨by omega,by omega⟩ (by omega) (by omega)) Bqm rfl rfl ⟨rfl,rfl,rfl,trivial⟩ fun w86 ρ86 σ86 hc86=>?_)))
  obtain ⟨l86,s86,hw86⟩:=hc86
  replace s86:=s86.symm; subst s86 hw86
  replace hg:=GlobT.mono l86 hg
  refine Bmb (.bool (true)) (Ae (gY rfl rfl) (Bm (Ato (Aud hg.g (Asz hnr))) Bpi rfl rfl trivial ?_))
  refine l_v (Bt rfl rfl (v:=(.bool (true))) rfl) (Bma (.bool (true)) (l_k k83 (Aj Bri (Aj (Brj (Brn (Brn (Brn (Brn (Brn l2 l3) l31) l75) l78) l86)) (Aq (hret _ _ _ ⟨rfl,rfl,eT (.bool (true)) ?_⟩))))))
  rfl
end
section
open Go Go.WideShapes
theorem Bhu:Api WTurn 241:=⟨by kernel_rfl,fun H enc W fuel cs x h hw=>by
 obtain ⟨xs,n,_,rfl,hcl,hl,hf⟩:=DataW.trod_struct Boq h
 rw [show Tryz.prog.cellsOf 241 = 2 from by kernel_rfl] at hcl
 obtain ⟨a0,r0⟩:=Ask (i:=0) Boq hl hf hw rfl rfl (show _ = 0 from rfl) (Ate Bne (by kernel_rfl))
 obtain ⟨a1,r1⟩:=Ask (i:=1) Boq hl hf hw rfl rfl (show _ = 1 from rfl) (Ate Bne (by kernel_rfl))
 refine ⟨⟨a0,a1⟩,?_⟩
 have e0:cs = cs.drop 0:=rfl
 rw [e0]
 exact ⟨(cs.drop 0).take 1,cs.drop 1,(Atg cs 0 1).trans (by rfl),r0,(show Dat.rep (roW W) (cs.drop 1) a1 from by (have:=r1; rw [List.take_of_length_le (by rw [List.length_drop,hcl]; decide)] at this; exact this))⟩⟩
theorem Bhv:Api WSwap 243:=⟨by kernel_rfl,fun H enc W fuel cs x h hw=>by
 obtain ⟨xs,n,_,rfl,hcl,hl,hf⟩:=DataW.trod_struct Bnx h
 rw [show Tryz.prog.cellsOf 243 = 3 from by kernel_rfl] at hcl
 obtain ⟨a0,r0⟩:=Ask (i:=0) Bnx hl hf hw rfl rfl (show _ = 0 from rfl) (Ate Bne (by kernel_rfl))
 obtain ⟨a1,r1⟩:=Ask (i:=1) Bnx hl hf hw rfl rfl (show _ = 1 from rfl) (Ate Bne (by kernel_rfl))
 obtain ⟨a2,r2⟩:=Ask (i:=2) Bnx hl hf hw rfl rfl (show _ = 2 from rfl) (Ate Bne (by kernel_rfl))
 refine ⟨⟨a0,a1,a2⟩,?_⟩
 have e0:cs = cs.drop 0:=rfl
 rw [e0]
 exact ⟨(cs.drop 0).take 1,cs.drop 1,(Atg cs 0 1).trans (by rfl),r0,⟨(cs.drop 1).take 1,cs.drop 2,(Atg cs 1 1).trans (by rfl),r1,(show Dat.rep (roW W) (cs.drop 2) a2 from by (have:=r2; rw [List.take_of_length_le (by rw [List.length_drop,hcl]; decide)] at this; exact this))⟩⟩⟩
theorem Bcu:Api WLoan 90:=⟨by kernel_rfl,fun H enc W fuel cs x h hw=>by
 obtain ⟨xs,n,_,rfl,hcl,hl,hf⟩:=DataW.trod_struct Boc h
 rw [show Tryz.prog.cellsOf 90 = 3 from by kernel_rfl] at hcl
 obtain ⟨a0,r0⟩:=Ask (i:=0) Boc hl hf hw rfl rfl (show _ = 0 from rfl) (Ate Bne (by kernel_rfl))
 obtain ⟨a1,r1⟩:=Ask (i:=1) Boc hl hf hw rfl rfl (show _ = 1 from rfl) (Ate Bne (by kernel_rfl))
 obtain ⟨a2,r2⟩:=Ask (i:=2) Boc hl hf hw rfl rfl (show _ = 2 from rfl) (Ate Bne (by kernel_rfl))
 refine ⟨⟨a0,a1,a2⟩,?_⟩
 have e0:cs = cs.drop 0:=rfl
 rw [e0]
 exact ⟨(cs.drop 0).take 1,cs.drop 1,(Atg cs 0 1).trans (by rfl),r0,⟨(cs.drop 1).take 1,cs.drop 2,(Atg cs 1 1).trans (by rfl),r1,(show Dat.rep (roW W) (cs.drop 2) a2 from by (have:=r2; rw [List.take_of_length_le (by rw [List.length_drop,hcl]; decide)] at this; exact this))⟩⟩⟩
theorem Bht:Api WPlot 184:=⟨by kernel_rfl,fun H enc W fuel cs x h hw=>by
 obtain ⟨xs,n,_,rfl,hcl,hl,hf⟩:=DataW.trod_struct Bno h
 rw [show Tryz.prog.cellsOf 184 = 6 from by kernel_rfl] at hcl
 obtain ⟨a0,r0⟩:=Ask (i:=0) Bno hl hf hw rfl rfl (show _ = 0 from rfl) (Bcw Bnt (by kernel_rfl))
 obtain ⟨a1,r1⟩:=Ask (i:=1) Bno hl hf hw rfl rfl (show _ = 1 from rfl) (Ate Bne (by kernel_rfl))
 obtain ⟨a2,r2⟩:=Ask (i:=2) Bno hl hf hw rfl rfl (show _ = 2 from rfl) (Ate Bne (by kernel_rfl))
 obtain ⟨a3,r3⟩:=Ask (i:=3) Bno hl hf hw rfl rfl (show _ = 3 from rfl) Bcv
 obtain ⟨a4,r4⟩:=Ask (i:=4) Bno hl hf hw rfl rfl (show _ = 5 from rfl) (Ate Bne (by kernel_rfl))
 refine ⟨⟨a0,a1,a2,a3,a4⟩,?_⟩
 have e0:cs = cs.drop 0:=rfl
 rw [e0]
 exact ⟨(cs.drop 0).take 1,cs.drop 1,(Atg cs 0 1).trans (by rfl),r0,⟨(cs.drop 1).take 1,cs.drop 2,(Atg cs 1 1).trans (by rfl),r1,⟨(cs.drop 2).take 1,cs.drop 3,(Atg cs 2 1).trans (by rfl),r2,⟨(cs.drop 3).take 2,cs.drop 5,(Atg cs 3 2).trans (by rfl),r3,(show Dat.rep (roW W) (cs.drop 5) a4 from by (have:=r4; rw [List.take_of_length_le (by rw [List.length_drop,hcl]; decide)] at this; exact this))⟩⟩⟩⟩⟩
theorem Bhs:Api Ditch 88:=⟨by kernel_rfl,fun H enc W fuel cs x h hw=>by
 obtain ⟨xs,n,_,rfl,hcl,hl,hf⟩:=DataW.trod_struct Bna h
 rw [show Tryz.prog.cellsOf 88 = 14 from by kernel_rfl] at hcl
 obtain ⟨a0,r0⟩:=Ask (i:=0) Bna hl hf hw rfl rfl (show _ = 0 from rfl) (Auo Bnd (by kernel_rfl) (Nat.le_of_ble_eq_true (by kernel_rfl)) (by decide) (Bcw Bnt (by kernel_rfl)))
 obtain ⟨a1,r1⟩:=Ask (i:=1) Bna hl hf hw rfl rfl (show _ = 1 from rfl) (Auo Bod (by kernel_rfl) (Nat.le_of_ble_eq_true (by kernel_rfl)) (by decide) Bhu)
 obtain ⟨a2,r2⟩:=Ask (i:=2) Bna hl hf hw rfl rfl (show _ = 2 from rfl) (Ate Bne (by kernel_rfl))
 obtain ⟨a3,r3⟩:=Ask (i:=3) Bna hl hf hw rfl rfl (show _ = 3 from rfl) (Ate Bne (by kernel_rfl))
 obtain ⟨a4,r4⟩:=Ask (i:=4) Bna hl hf hw rfl rfl (show _ = 4 from rfl) (Ate Bne (by kernel_rfl))
 obtain ⟨a5,r5⟩:=Ask (i:=5) Bna hl hf hw rfl rfl (show _ = 5 from rfl) (Ate Bne (by kernel_rfl))
 obtain ⟨a6,r6⟩:=Ask (i:=6) Bna hl hf hw rfl rfl (show _ = 6 from rfl) (Auo Bni (by kernel_rfl) (Nat.le_of_ble_eq_true (by kernel_rfl)) (by decide) Bcv)
 obtain ⟨a7,r7⟩:=Ask (i:=7) Bna hl hf hw rfl rfl (show _ = 7 from rfl) (Auo Boi (by kernel_rfl) (Nat.le_of_ble_eq_true (by kernel_rfl)) (by decide) Bhv)
 obtain ⟨a8,r8⟩:=Ask (i:=8) Bna hl hf hw rfl rfl (show _ = 8 from rfl) (Auo Bnk (by kernel_rfl) (Nat.le_of_ble_eq_true (by kernel_rfl)) (by decide) Bcu)
 obtain ⟨a9,r9⟩:=Ask (i:=9) Bna hl hf hw rfl rfl (show _ = 9 from rfl) Bcv
 obtain ⟨a10,r10⟩:=Ask (i:=10) Bna hl hf hw rfl rfl (show _ = 11 from rfl) Bcv
 obtain ⟨a11,r11⟩:=Ask (i:=11) Bna hl hf hw rfl rfl (show _ = 13 from rfl) (Auo Bob (by kernel_rfl) (Nat.le_of_ble_eq_true (by kernel_rfl)) (by decide) Bht)
 refine ⟨⟨a0,a1,a2,a3,a4,a5,a6,a7,a8,a9,a10,a11⟩,?_⟩
 have e0:cs = cs.drop 0:=rfl
 rw [e0]
 exact ⟨(cs.drop 0).take 1,cs.drop 1,(Atg cs 0 1).trans (by rfl),r0,⟨(cs.drop 1).take 1,cs.drop 2,(Atg cs 1 1).trans (by rfl),r1,⟨(cs.drop 2).take 1,cs.drop 3,(Atg cs 2 1).trans (by rfl),r2,⟨(cs.drop 3).take 1,cs.drop 4,(Atg cs 3 1).trans (by rfl),r3,⟨(cs.drop 4).take 1,cs.drop 5,(Atg cs 4 1).trans (by rfl),r4,⟨(cs.drop 5).take 1,cs.drop 6,(Atg cs 5 1).trans (by rfl),r5,⟨(cs.drop 6).take 1,cs.drop 7,(Atg cs 6 1).trans (by rfl),r6,⟨(cs.drop 7).take 1,cs.drop 8,(Atg cs 7 1).trans (by rfl),r7,⟨(cs.drop 8).take 1,cs.drop 9,(Atg cs 8 1).trans (by rfl),r8,⟨(cs.drop 9).take 2,cs.drop 11,(Atg cs 9 2).trans (by rfl),r9,⟨(cs.drop 11).take 2,cs.drop 13,(Atg cs 11 2).trans (by rfl),r10,(show Dat.rep (roW W) (cs.drop 13) a11 from by (have:=r11; rw [List.take_of_length_le (by rw [List.length_drop,hcl]; decide)] at this; exact this))⟩⟩⟩⟩⟩⟩⟩⟩⟩⟩⟩⟩
end
section
open Go Go.WideShapes Go.ChangeShapes Go.RowKit Go.Conc
theorem Bcn {H:Type} {enc:TypeId × Value→H} {W:World} {r:Reach} {base t:Nat} {v:Value} {d:DataW H} {p:List MemPlace} (ht:Tryz.prog.underlying t = some (.int .u32)) (hv:Value.okWide Tryz.prog W r base t v) (h:DataW.Trod enc Tryz.prog W 0 (fun _=>true) true t v d p):∃ n:Nat,v = .int .u32 (n:Int)∧n < 4294967296:=by
 obtain ⟨n,rfl⟩:=okWide_int ht hv
 obtain ⟨fuel,hf⟩:=h
 obtain ⟨m,h1,_,h3⟩:=DataW.trod_int (cs:=[.int .u32 n]) ht hf
 simp [Lit.wf,IntKind.min,IntKind.max,IntKind.signed,IntKind.bits] at h3
 obtain rfl:n = m:=by simpa using h1
 exact ⟨n.toNat,by rw [Int.toNat_of_nonneg (by omega)],by omega⟩
def Azt:List (String × DataW Unit):=[("crocus/fake.can",Rows.laid_crocus_fake_can),("crocus/fake.over",Rows.laid_crocus_fake_over),("crocus/turn.checks",Rows.laid_crocus_turn_checks)]
theorem gChecks:Tryz.prog.globalNamed "crocus/turn.checks" = some 2:=by kernel_rfl
theorem tChecks:(Tryz.prog.globals[2]?).map (·.type) = some 315:=by kernel_rfl
theorem Bdx (os:Os) (args:Array Value):laidMetH Tryz.prog Azt ((World.doorLaid Tryz.prog 2000 os).forCall (fun _ _=>0) ⟨#[],args,[]⟩).memory :=
 laidMetH_of_parts3 (fuel:=8) (laidMet_of_run' 8 (by kernel_rfl) (by kernel_rfl)) (by kernel_rfl) (by kernel_rfl)
def Bem (H:Type) (enc:TypeId × Value→H) (s:ChangeSpec) (fn:Func):World→Array Value→Prop :=
 fun w args=>(s.pre enc Tryz.prog fn [] false w args∧laidMetH Tryz.prog Azt w)∧sizedMet enc Tryz.prog fn (OpenSpec.ofChange s) false w args
theorem Aye {W:World} (h:laidMetH Tryz.prog Azt W):GlobT (roW W):=by
 have h':laidMet Tryz.prog [("crocus/fake.over",Rows.laid_crocus_fake_over)] W∧handlesMet Tryz.prog [("crocus/fake.can",Rows.laid_crocus_fake_can),("crocus/turn.checks",Rows.laid_crocus_turn_checks)] W:=h
 have h2:laidMetH Tryz.prog Bfg W:=⟨h'.1,fun x hx=>h'.2 x (by rw [List.mem_singleton.1 hx]; exact List.mem_cons_self ..)⟩
 refine ⟨Xc h2,?_⟩
 obtain ⟨g,t,cs,fuel,p,hg,ht,hv,hd⟩:=h.funcs (n:= "crocus/turn.checks") (d:=.agg [.iface "func" (.lit (.string [40,42,99,114,111,99,117,115,47,116,117,114,110,46,100,105,116,99,104,41,46,112,101,111,112,108,101])),.iface "func" (.lit (.string [40,42,99,114,111,99,117,115,47,116,117,114,110,46,100,105,116,99,104,41,46,116,105,109,101,115])),.iface "func" (.lit (.string [40,42,99,114,111,99,117,115,47,116,117,114,110,46,100,105,116,99,104,41,46,99,104,97,110,103,101,115])),.iface "func" (.lit (.string [40,42,99,114,111,99,117,115,47,116,117,114,110,46,100,105,116,99,104,41,46,103,114,111,117,110,100]))]) (List.mem_cons_of_mem _ (List.mem_cons_of_mem _ (List.mem_cons_self ..)))
 obtain rfl:=Option.some.inj (gChecks.symm.trans hg)
 obtain rfl:=Option.some.inj (tChecks.symm.trans ht)
 obtain ⟨t',fz,hh⟩:=Zw hg hv
 obtain ⟨xs,m,_,h1,hcl,hl,hf⟩:=DataW.trod_array Bpl hd
 have e1:xs.map (·.1) = [.held [40,42,99,114,111,99,117,115,47,116,117,114,110,46,100,105,116,99,104,41,46,112,101,111,112,108,101],.held [40,42,99,114,111,99,117,115,47,116,117,114,110,46,100,105,116,99,104,41,46,116,105,109,101,115],.held [40,42,99,114,111,99,117,115,47,116,117,114,110,46,100,105,116,99,104,41,46,99,104,97,110,103,101,115],.held [40,42,99,114,111,99,117,115,47,116,117,114,110,46,100,105,116,99,104,41,46,103,114,111,117,110,100]]:=by
  have:=congrArg Prod.fst h1
  simp only [DataW.funcsOut,DataW.funcsOutAll] at this
  have h3:=(DataW.agg.inj this).symm
  simpa using h3
 rw [show Tryz.prog.cellsOf 315 = 4 from by kernel_rfl] at hcl
 obtain ⟨a,b,c,d,hab⟩:∃ a b c d,cs.toList = [a,b,c,d]:=by
  match hm:cs.toList,hcl with
  | [a,b,c,d],_=>exact ⟨a,b,c,d,rfl⟩
 have f0:=hf 0 (by decide)
 have f1:=hf 1 (by decide)
 have f2:=hf 2 (by decide)
 have f3:=hf 3 (by decide)
 obtain ⟨x0,x1,x2,x3,hx⟩:∃ x0 x1 x2 x3,xs = [x0,x1,x2,x3]:=by
  match hm:xs,hl with
  | [a,b,c,d],_=>exact ⟨a,b,c,d,rfl⟩
 subst hx
 rw [hab,show Tryz.prog.cellsOf 314 = 1 from by kernel_rfl] at f0 f1 f2 f3
 simp only [Nat.zero_mul,Nat.one_mul,Nat.mul_one,List.getElem?_cons_zero,List.getElem?_cons_succ,List.drop_zero,List.drop_succ_cons,List.take_succ_cons,List.take_zero] at f0 f1 f2 f3
 simp only [List.map_cons,List.map_nil,List.cons.injEq,and_true] at e1
 obtain ⟨d0,q0⟩:=x0
 obtain ⟨d1,q1⟩:=x1
 obtain ⟨d2,q2⟩:=x2
 obtain ⟨d3,q3⟩:=x3
 obtain ⟨e0,e1,e2,e3⟩:=e1
 simp only at e0 e1 e2 e3
 subst e0 e1 e2 e3
 obtain rfl:=func_of_trod (f0:=210) Bpc (by kernel_rfl) f0
 obtain rfl:=func_of_trod (f0:=211) Bpc (by kernel_rfl) f1
 obtain rfl:=func_of_trod (f0:=212) Bpc (by kernel_rfl) f2
 obtain rfl:=func_of_trod (f0:=213) Bpc (by kernel_rfl) f3
 have hr:=Vz hh
 exact ⟨_,0,cs,t',fz,checksT.l,[],rfl,hr,⟨rfl,rfl,by decide⟩,by rw [hab]; rfl⟩
/-- As Beb,with three variables laid. -/
theorem Bby {f:FuncId} {r:Nat} {fn:Func} {s:ChangeSpec} (os:Os) (started:os.Started) (H:Type) (enc:TypeId × Value→H) (hfn:Tryz.prog.funcs[f]? = some fn) (hvars:s.vars = []) (hres:fn.resultTypes = #[4]) (hi:Tryz.prog.inits.idxOf? f = none)
  (hts:∀ t ∈ fn.params.toList,Tryz.prog.readableRec t = true∧t < Tryz.prog.types.size)
  (hspec:∀ ds:List (DataW H),ds.length = fn.params.toList.length→s.fn H ds = { results:=[.lit (.bool true)],args:=ds })
  (witness:∃ (w:World) (tape:Tape) (i:Input),w.os = os∧(w.forCall tape i).Shaped Tryz.prog∧i.vars = []∧Input.okWide Tryz.prog (w.forCall tape i) .any w.heap.size f i∧Bem H enc s fn (w.forCall tape i).memory i.args∧({}:Assume).holds Tryz.prog (lone (Frame.enter Tryz.prog f i.args .normal) [] (w.forCall tape i)))
  (walk:∀ (W:World) (args:List Value) (ds:List (DataW H)) (ps:List MemPlace),(∀ (j:Nat) t v,fn.params[j]? = some t→args.toArray[j]? = some v→∃ b,Value.okWide Tryz.prog W .any b t v)→DataW.TrodAll enc Tryz.prog W 0 (fun _=>true) true fn.params.toList args ds ps →
   (DataW.weightsEach Tryz.prog fn.params.toList ds).all (· ≤ reachBytes) = true→GlobT (roW W)→Agd (CY W) f r args (roW W) [] (fun w ρ' σ'=>ρ' = roW W∧σ' = []∧w = .bool true)) :
  ReturnsInLeavingWide {} Tryz.checked os f .any (Bem H enc s fn) (s.post enc Tryz.prog fn false true false false):=by
 refine returnsInLeavingWide_of_good (C:=Tryz.checked) Art started witness ?_
 intro w tape i _ _ _ hok hpre _
 obtain ⟨_,_,_,fn',hfn',_,_,_,_,hval⟩:=hok
 have e:fn' = fn:=Option.some.inj (hfn'.symm.trans hfn)
 subst e
 obtain ⟨⟨⟨ds,gs,before,hw,_⟩,hL⟩,hz⟩:=hpre
 have hsz:=hz.weights hw
 have hw':=DataW.Whole.of_heap (w':=w.forCall tape i) (by rfl) hw
 have hL':=hL.of_heap (w':=w.forCall tape i) (by rfl)
 generalize w.forCall tape i = W at *
 obtain ⟨p,q,hA,hV,hb,hnf,hnd⟩:=hw'
 have hV':DataW.TrodVars enc Tryz.prog W (fun _=>true) [] gs q:=by rw [← hvars]; exact hV
 obtain ⟨rfl,rfl⟩:=trodVars_none hV'
 simp only [List.append_nil] at hb
 replace hb:=hb.symm
 subst hb
 have hvt:s.plain.varTypes Tryz.prog = []:=by unfold DataSpec.varTypes ChangeSpec.plain; rw [hvars]; rfl
 rw [show (OpenSpec.ofChange s).bare.plain.varTypes Tryz.prog = [] from hvt,List.append_nil,List.append_nil] at hsz
 obtain ⟨hl1,hl2⟩:=Sb hA
 have hargs:i.args.toList.toArray = i.args:=by simp
 have hbody:=walk W i.args.toList ds p (fun j t v h1 h2=>⟨_,hval j t v h1 (by rw [hargs] at h2; exact h2)⟩) hA hsz (Aye hL')
 have hW0:DataW.Whole enc Tryz.prog fn'.params.toList s.vars false W i.args.toList ds [] p:=⟨p,[],hA,hV,by simp,hnf,hnd⟩
 have hlt:∀ x ∈ p,x.block < W.heap.size:=fun x hx=>by simpa using hW0.lt x hx
 have hgo:=Awn (W0:=W) (Pst:=fun v W'=>s.post enc Tryz.prog fn' false true false false W i.args v W') hbody hi fun v ρ' σ' ⟨_,hσ,hv⟩=>⟨hσ,fun W' hbw=>by
  subst hv
  have er:(s.fn H (ds ++ [])) = { results:=[.lit (.bool true)],args:=ds }:=by rw [List.append_nil]; exact hspec ds hl2
  refine ⟨ds,[],p,[],p,[],hW0,?_,?_,?_,hbw.frame _,fun h=>by cases h⟩
  ·rw [er,hres]; exact trodAll_mk1 (shut_bool Boh true)
  ·rw [er]; exact Oo hbw hts hlt hA
  ·rw [er,hvars]; rfl⟩
 rw [hargs] at hgo
 obtain ⟨M,last,o,w',t',h1,h2,h3,h4⟩:=Awm hgo Anl
 exact ⟨M,last,o,w',t',h1,h2,h3,h4.mono fun v hp=>ChangeSpec.post_blind hp⟩
end
section
set_option maxHeartbeats 1000000
open Go Go.WideShapes Go.ChangeShapes Go.RowKit Go.Conc
set_option maxRecDepth 100000
theorem Awq (os:Os) (started:os.Started) (H:Type) (enc:TypeId × Value→H):ReturnsInLeavingWide {} Tryz.checked os 6 .any (Bem H enc Rows.fakeTurnsSpec Tryz.f6) (Rows.fakeTurnsSpec.post enc Tryz.prog Tryz.f6 false true false false):=by
 refine Bby (r:=8) os started H enc Tryz.func6 rfl rfl (by kernel_rfl) (by decide) (fun ds hd=>?_)
  (ChangeSpec.witness_shaped (enc:=enc) (C:=Tryz.checked) (os:=os) (X:=fun w _=>laidMetH Tryz.prog Azt w) false (World.doorLaid Tryz.prog 2000 os) #[.agg #[.slice none 0 0,.slice none 0 0,.int .i64 0,.int .i64 0,.int .i64 0,.int .i64 0,.slice none 0 0,.slice none 0 0,.slice none 0 0,.int .i64 0,.int .i64 0,.int .i64 0,.int .i64 0,.slice none 0 0],.agg #[.int .i64 0,.int .i64 0,.int .i64 0],.int .u32 0,.int .u32 0] 8 rfl (World.shaped_of_RefB (by kernel_rfl) (by kernel_rfl)) (by kernel_rfl) (by kernel_rfl) (by kernel_rfl) (Bdx os _)) ?_
 ·match ds,hd with
  | [d1,d2,d3,d4],_=>rfl
 ·intro W args ds ps hv hA hw hg
  obtain ⟨hl1,hl2⟩:=Sb hA
  match args,hl1,ds,hl2,hA with
  | [v1,v2,v3,v4],_,[d1,d2,d3,d4],_,⟨p1,q1,h1,⟨p2,q2,h2,⟨p3,q3,h3,⟨p4,q4,h4,_,_⟩,_⟩,_⟩,_⟩ =>
   obtain ⟨b1,k1⟩:=hv 0 88 v1 rfl rfl
   obtain ⟨b2,k2⟩:=hv 1 90 v2 rfl rfl
   obtain ⟨b3,k3⟩:=hv 2 91 v3 rfl rfl
   obtain ⟨b4,k4⟩:=hv 3 91 v4 rfl rfl
   obtain ⟨x1,rx1⟩:=Axc Bhs rfl Bna k1 h1 (Axt hw (j:=0) rfl rfl)
   obtain ⟨x2,rx2⟩:=Axc Bcu rfl Boc k2 h2 (Axt hw (j:=1) rfl rfl)
   obtain ⟨x3,rfl,lx3⟩:=Bcn Bqc k3 h3
   obtain ⟨x4,rfl,lx4⟩:=Bcn Bqc k4 h4
   exact Baj hg (fun c vs h=>by cases h) rx1 rx2 lx3 lx4
theorem Ayc:Rows.FakeTurnsSaid :=
 OpenClaim.holds_of_wide_leaving 6 Tryz.f6 rfl rfl rfl rfl rfl rfl rfl ⟨rfl,rfl,rfl,rfl,rfl⟩ rfl rfl rfl rfl rfl (by kernel_rfl) Tryz.func6 (by kernel_rfl)
  (of_decide_eq_true (by kernel_rfl)) (by unfold Func.isWrapper; first | (rw [if_pos (by decide +kernel)]; kernel_rfl) | (rw [if_neg (by decide +kernel)]; exact ⟨rfl,rfl⟩))
  (fun os started H enc _=>Awq os started H enc)
theorem fakeTurns_holds:Rows.FakeTurnsCardSaid :=
 Beh .later [.funcs,.data,.funcs] true (true,"64c05d2246e4d379d7c851f58b7b5f5719ef82ed1ca4210b0e7462fe21a2bfab") false Ayc (by kernel_rfl) fakeTurns_row_tie rfl ⟨rfl,rfl⟩ (by kernel_rfl) rfl
  (fun f fn hf hfn=>by
   obtain rfl:f = 6:=Option.some.inj ((show Tryz.prog.funcNamed "crocus/crocuslaw08.FakeTurns" = some 6 by kernel_rfl).symm.trans hf) |>.symm
   obtain rfl:fn = Tryz.f6:=(Option.some.inj (Tryz.func6.symm.trans hfn)).symm
   exact ⟨by kernel_rfl,fun j t ht=>by
    have h2:t = 88∨t = 90∨t = 91:=by
     match j,ht with
     | 0,h=>exact .inl (Option.some.inj h).symm
     | 1,h=>exact .inr (.inl (Option.some.inj h).symm)
     | 2,h=>exact .inr (.inr ((Option.some.inj h).symm))
     | 3,h=>exact .inr (.inr ((Option.some.inj h).symm))
    rcases h2 with rfl | rfl | rfl
    ·exact (show Tryz.prog.wantsStandIn 88 = false by kernel_rfl)
    ·exact (show Tryz.prog.wantsStandIn 90 = false by kernel_rfl)
    ·exact (show Tryz.prog.wantsStandIn 91 = false by kernel_rfl)⟩)
  (by kernel_rfl)
end
end Go.Proofs.YtphgjjmlnkgghaaGreatDoor
