/- Part 6 of what all laws of layer 8 need: a logic of programs that start goroutines, and what the functions yield. -/
import Derived.Test.YtninnkechkolnaaGreatDoorB5
set_option linter.unusedVariables false
set_option linter.unusedSimpArgs false
set_option maxRecDepth 100000
set_option maxHeartbeats 4000000
namespace Go.Proofs.YtninnkechkolnaaGreatDoor
section
open Go
variable{mn:Bool}{X:Frame→List Frame→Ro→Own→Cy→Prop}{ρ:Ro}{σ:Own}
theorem Xa{x:List ByteArray}{va vb:Value}(ra:Val ρ va x)(rb:Val ρ vb x):CallsH (CX mn X) 49 #[va,vb] ρ σ (rP ρ σ bT):=by
 refine Bq 26 [4] Bxd rfl fun Q f T=>w_q rfl rfl fun C g=>Au bF (Ary rfl rfl g fun G I l u=>Av va ?_)
 have P:=Bxo ra
 refine l_v (Ci (el:=9) Bts rfl ra) (Av vb ?_)
 have R:=Bxo rb
 refine l_v (Ci (el:=9) Bts rfl rb) (l_v (Dg rfl rfl) (l_k u (Cg rfl (by simp) (Al (kk l ?_)))))
 refine Asb rfl rfl fun J K w y=>Au (iV 0) (l_k y (Ao (Cc (fun mm ee dd ρ' σ'=>∃(i:Nat),(x.length-i)=mm∧[]=dd∧ρ=ρ'∧σ=σ'∧ee 0=va∧ee 1=vb∧ee 5=iV i∧(i≤x.length)∧True) (m:=_) ⟨0,rfl,rfl,rfl,rfl,rfl,rfl,rfl,Gn _,trivial⟩ ?_)))
 rintro m8 e8 _ _ _ ⟨i,rfl,rfl,rfl,rfl,h8_0,h8_1,h8_5,p8_0,_⟩
 refine Asb rfl rfl fun L D z h=>l_v (Ah (v:=iV i) h8_5) (l_v (Ah (v:=va) h8_0) ?_)
 have M:=Bxo ra
 refine l_v (Ci (el:=9) Bts rfl ra) (l_v (Da rfl rfl) (l_k h (Bf (t:=decide ((i:Int)<(x.length:Int))) rfl (fun b=>?_) (fun b=>?_))))
 ·have B:=lZ1 b
  refine Al (kk z ?_)
  refine Ai fun E j=>Ao (Ai fun F k=>Pr (Bu 0 Anu rfl (Ah (v:=va) h8_0) (Bu 1 Anv rfl (Ah (v:=iV i) h8_5) ?_)))
  obtain⟨a,c⟩:=Ed (xs:=x) (i:=i) (by omega)
  refine De 2 Aoh rfl (Ch i Bts ty9 rfl ra (q:=(i:Int)) rfl rfl c) fun U d=>?_
  have N:a.data.toList.length<2^60:=At.slen d
  refine Bu 3 Aoi rfl (Pk ty9 rfl d) (Bu 4 Aoj rfl (Ah (v:=vb) h8_1) (Cj 5 Anw rfl (Ah (v:=iV i) h8_5) (Ho 6 Anx rfl (Ch i Bts ty9 rfl rb (q:=(i:Int)) rfl rfl c) fun V e=>?_)))
  have O:a.data.toList.length<2^60:=At.slen e
  refine Cj 7 Anz rfl (Pk ty9 rfl e) (Cj 8 Aoa rfl (Aps (p:=a.data.toList) (q:=a.data.toList) rfl rfl) (Ec rfl (kk k ?_)))
  refine Cg rfl (by simp) (Al (kk j ?_))
  refine Ag rfl rfl (l_v (Ah (v:=iV i) h8_5) (l_v (Cw (((i+1):Nat):Int)) (Au (iV ((i+1):Nat)) (Ac ?_))))
  refine⟨_,?_,(i+1),rfl,rfl,rfl,rfl,h8_0,h8_1,rfl,(by omega),trivial⟩
  omega
 have B:=lZ0 b
 refine Bx (kk w ?_)
 refine w_q rfl rfl fun H n=>Au bT (l_k n (Aq (f (rT bT ?_))))
 rfl
theorem Acw{x:List Span}{va vb:Value}(ra:Val ρ va x)(rb:Val ρ vb x):CallsH (CX mn X) 50 #[va,vb] ρ σ (rP ρ σ bT):=by
 refine Bq 26 [4] Tryz.func50 rfl fun Q f Z=>w_q rfl rfl fun H g=>Au bF (Ary rfl rfl g fun L N l p=>Av va ?_)
 have W:=Bxo ra
 refine l_v (Ci (el:=48) Bug rfl ra) (Av vb ?_)
 have Y:=Bxo rb
 refine l_v (Ci (el:=48) Bug rfl rb) (l_v (Dg rfl rfl) (l_k p (Cg rfl (by simp) (Al (kk l ?_)))))
 refine Asb rfl rfl fun O P u w=>Au (iV 0) (l_k w (Ao (Cc (fun mm ee dd ρ' σ'=>∃(i:Nat),(x.length-i)=mm∧[]=dd∧ρ=ρ'∧σ=σ'∧ee 0=va∧ee 1=vb∧ee 5=iV i∧(i≤x.length)∧True) (m:=_) ⟨0,rfl,rfl,rfl,rfl,rfl,rfl,rfl,Gn _,trivial⟩ ?_)))
 rintro m8 e8 _ _ _ ⟨i,rfl,rfl,rfl,rfl,h8_0,h8_1,h8_5,p8_0,_⟩
 refine Asb rfl rfl fun R I y h=>l_v (Ah (v:=iV i) h8_5) (l_v (Ah (v:=va) h8_0) ?_)
 have V:=Bxo ra
 refine l_v (Ci (el:=48) Bug rfl ra) (l_v (Da rfl rfl) (l_k h (Bf (t:=decide ((i:Int)<(x.length:Int))) rfl (fun b=>?_) (fun b=>?_))))
 ·have z:=lZ1 b
  refine Al (kk y ?_)
  refine Ai fun J j=>Ao (Ai fun K k=>Pr (Bu 0 Anu rfl (Ah (v:=va) h8_0) (Bu 1 Anv rfl (Ah (v:=iV i) h8_5) ?_)))
  obtain⟨a,e⟩:=Ed (xs:=x) (i:=i) (by omega)
  refine De 2 Aoh rfl (Ch i Bug Mx rfl ra (q:=(i:Int)) rfl rfl e) fun a8 B=>De 3 Aoi rfl (Ax Mx rfl B) fun F C=>Bu 4 Aoj rfl (Ah (v:=vb) h8_1) (Cj 5 Anw rfl (Ah (v:=iV i) h8_5) (Ho 6 Anx rfl (Ch i Bug Mx rfl rb (q:=(i:Int)) rfl rfl e) fun a9 D=>Ho 7 Anz rfl (Ax Mx rfl D) fun G E=>?_))
  obtain⟨c,⟨a0,a1⟩,⟨a2,a3⟩⟩:=Span.open_ C
  have T:F.cells=[iV a.low,iV a.high].toArray:=by rw[c];rfl
  obtain⟨d,⟨a4,a5⟩,⟨a6,a7⟩⟩:=Span.open_ E
  have U:G.cells=[iV a.low,iV a.high].toArray:=by rw[d];rfl
  refine Cj 8 Aoa rfl (Aci (ps:=[a.low,a.high]) (qs:=[a.low,a.high]) Buj (by kernel_rfl) (by kernel_rfl) (rfl.trans c) (rfl.trans d) ⟨⟨by decide,_,Bty,rfl,rfl⟩,⟨by decide,_,Bty,rfl,rfl⟩,trivial⟩) (Ec rfl (kk k ?_))
  refine Cg rfl (by simp) (Al (kk j ?_))
  refine Ag rfl rfl (l_v (Ah (v:=iV i) h8_5) (l_v (Cw (((i+1):Nat):Int)) (Au (iV ((i+1):Nat)) (Ac ?_))))
  refine⟨_,?_,(i+1),rfl,rfl,rfl,rfl,h8_0,h8_1,rfl,(by omega),trivial⟩
  omega
 have z:=lZ0 b
 refine Bx (kk u ?_)
 refine w_q rfl rfl fun M n=>Au bT (l_k n (Aq (f (rT bT ?_))))
 rfl
theorem Aib{x:Lab}{va vb:Value}(ra:Val ρ va x)(rb:Val ρ vb x):CallsH (CX mn X) 12 #[va,vb] ρ σ (rP ρ σ bT):=by
 refine Bq 79 [4] Tryz.func12 rfl fun Q z b1=>w_q rfl rfl fun K1 B=>Arv (Eb (v:=va) rfl fun C=>?_)
 refine Bb (a:=x) ra fun c3 g c=>?_
 replace rb:=Val.mono g rb
 refine Arv (Eb (v:=vb) rfl fun I=>?_)
 refine Bb (a:=x) rb fun ai h e=>?_
 replace c:=At.mono h c
 refine Au bF (Ary rfl rfl B fun K4 K5 K L=>Arw (Ba Lab.f_kinds Btv rfl Hw c) fun v6 r6=>Arw (Ax Hw rfl r6) fun v7 r7=>Arw (Ba Lab.f_kinds Btv rfl Hw e) fun v8 r8=>Arw (Ax Hw rfl r8) fun v9 r9=>Arv (Bw (Xa r7 r9) Bxd ?_))
 refine l_v (Iy rfl) (Av (.bool (!(true))) (Ak (gY rfl (not_t rfl)) (Ba Lab.f_most Btv rfl ty3 c) fun b2 j=>?_))
 have⟨aq,ar⟩:=At.rng j
 refine Aa (gY rfl (not_t rfl)) (Bc ty3 rfl j) (Ak (gY rfl (not_t rfl)) (Ba Lab.f_most Btv rfl ty3 e) fun b3 k=>?_)
 have⟨au,av⟩:=At.rng k
 refine Aa (gY rfl (not_t rfl)) (Bc ty3 rfl k) (Aa (gY rfl (not_t rfl)) (Dg rfl rfl) (l_v (Bn rfl (not_t rfl) (v:=.bool (x.most != x.most)) rfl) (Av (.bool (x.most != x.most)) (Ak (gY rfl (by simp)) (Ba Lab.f_tests Btv rfl Vi c) fun b4 O=>Ak (gY rfl (by simp)) (Ax Vi rfl O) fun b5 l=>?_))))
 have aw:=Bxo l
 refine Aa (gY rfl (by simp)) (Ci (el:=46) Bua rfl l) (Ak (gY rfl (by simp)) (Ba Lab.f_tests Btv rfl Vi e) fun b6 P=>Ak (gY rfl (by simp)) (Ax Vi rfl P) fun b7 n=>?_)
 have ax:=Bxo n
 refine Aa (gY rfl (by simp)) (Ci (el:=46) Bua rfl n) (Aa (gY rfl (by simp)) (Dg rfl rfl) (l_v (Bn rfl (by simp) (v:=.bool ((x.tests.length:Int) != (x.tests.length:Int))) rfl) (l_k L (Cg rfl (by simp) (Al (kk K ?_))))))
 refine Asb rfl rfl fun aj ak D E=>Au (iV 0) (l_k E (Ao (Cc (fun mm ee dd ρ' σ'=>∃(i:Nat),(x.tests.length-i)=mm∧[]=dd∧ai=ρ'∧σ=σ'∧ee 2=pV C∧ee 3=pV I∧ee 5=iV i∧(i≤x.tests.length)∧True) (m:=_) ⟨0,rfl,rfl,rfl,rfl,rfl,rfl,rfl,Gn _,trivial⟩ ?_)))
 rintro m22 e22 _ _ _ ⟨i,rfl,rfl,rfl,rfl,h22_2,h22_3,h22_5,p22_0,_⟩
 refine Asb rfl rfl fun al am F G=>l_v (Ah (v:=iV i) h22_5) (Arw (Ba Lab.f_tests Btv rfl Vi c h22_2) fun b8 R=>Arw (Ax Vi rfl R) fun b9 u=>?_)
 have ay:=Bxo u
 refine l_v (Ci (el:=46) Bua rfl u) (l_v (Da rfl rfl) (l_k G (Bf (t:=decide ((i:Int)<(x.tests.length:Int))) rfl (fun f=>?_) (fun f=>?_))))
 ·have N:=lZ1 f
  refine Al (kk F ?_)
  refine Ai fun an H=>Ao (Ai fun ao J=>Pr (De 0 (zT 1 43) rfl (Ba Lab.f_tests Btv rfl Vi c h22_2) fun ba T=>De 1 (zT 2 42) rfl (Ax Vi rfl T) fun bb U=>Bu 2 (zT 3 41) rfl (Ah (v:=iV i) h22_5) ?_))
  obtain⟨b,d⟩:=Ed (xs:=x.tests) (i:=i) (by omega)
  refine De 3 (zT 4 40) rfl (Ch i Bua Um rfl U (q:=(i:Int)) rfl rfl d) fun bc V=>De 4 (zT 5 39) rfl (Ba FTest.f_name Bub rfl ty9 V) fun bd w=>?_
  have az:b.name.data.toList.length<2^60:=At.slen w
  refine Bu 5 (zT 6 38) rfl (Pk ty9 rfl w) (De 6 (zT 7 37) rfl (Ba Lab.f_tests Btv rfl Vi e h22_3) fun be W=>De 7 (zT 8 36) rfl (Ax Vi rfl W) fun bf Y=>Cj 8 (zT 9 35) rfl (Ah (v:=iV i) h22_5) (Ho 9 (zT 10 34) rfl (Ch i Bua Um rfl Y (q:=(i:Int)) rfl rfl d) fun bg Z=>Ho 10 (zT 11 33) rfl (Ba FTest.f_name Bub rfl ty9 Z) fun bh y=>?_))
  have b0:b.name.data.toList.length<2^60:=At.slen y
  refine Cj 11 (zT 12 32) rfl (Pk ty9 rfl y) (Cj 12 (zT 13 31) rfl (Aps (p:=b.name.data.toList) (q:=b.name.data.toList) rfl rfl) (Cj 13 (zT 14 30) rfl (Ah (v:=.bool (b.name.data.toList != b.name.data.toList)) rfl) (Fp 14 (zT 15 29) rfl Bxm (gY rfl (by simp)) (Ba Lab.f_tests Btv rfl Vi c h22_2) fun bi a0=>Fp 15 (zT 16 28) rfl Bxm (gY rfl (by simp)) (Ax Vi rfl a0) fun bj a1=>Aej 16 (zT 17 27) rfl Bxm (gY rfl (by simp)) (Ah (v:=iV i) h22_5) ?_)))
  refine Fp 17 (zT 18 26) rfl Bxm (gY rfl (by simp)) (Ch i Bua Um rfl a1 (q:=(i:Int)) rfl rfl d) fun bk a2=>Fp 18 (zT 19 25) rfl Bxm (gY rfl (by simp)) (Ba FTest.f_errs Bub rfl ty4 a2) fun bl a3=>Aej 19 (zT 20 24) rfl Bxm (gY rfl (by simp)) (Nx ty4 rfl a3) (Fp 20 (zT 21 23) rfl Bxm (gY rfl (by simp)) (Ba Lab.f_tests Btv rfl Vi e h22_3) fun bm a4=>Fp 21 (zT 22 22) rfl Bxm (gY rfl (by simp)) (Ax Vi rfl a4) fun bn a5=>Qa 22 (zT 23 21) rfl Bxm (gY rfl (by simp)) (Ah (v:=iV i) h22_5) (Qc 23 (zT 24 20) rfl Bxm (gY rfl (by simp)) (Ch i Bua Um rfl a5 (q:=(i:Int)) rfl rfl d) fun bo a6=>Qc 24 (zT 25 19) rfl Bxm (gY rfl (by simp)) (Ba FTest.f_errs Bub rfl ty4 a6) fun bp a7=>Qa 25 (zT 26 18) rfl Bxm (gY rfl (by simp)) (Nx ty4 rfl a7) (Qa 26 (zT 27 17) rfl Bxm (gY rfl (by simp)) (Bjm Bvm (p:=b.errs) (q:=b.errs) rfl rfl) (Cj 27 (zT 28 16) rfl (Bn rfl (by simp) (v:=.bool (b.errs != b.errs)) rfl) (Cj 28 (zT 29 15) rfl (Ah (v:=.bool (b.errs != b.errs)) rfl) (Fp 29 (zT 30 14) rfl Bxm (gY rfl (by simp)) (Ba Lab.f_tests Btv rfl Vi c h22_2) fun bq a8=>Fp 30 (zT 31 13) rfl Bxm (gY rfl (by simp)) (Ax Vi rfl a8) fun br a9=>Aej 31 (zT 32 12) rfl Bxm (gY rfl (by simp)) (Ah (v:=iV i) h22_5) (Fp 32 (zT 33 11) rfl Bxm (gY rfl (by simp)) (Ch i Bua Um rfl a9 (q:=(i:Int)) rfl rfl d) fun bt aa=>Fp 33 (zT 34 10) rfl Bxm (gY rfl (by simp)) (Ba FTest.f_sees Bub rfl Afp aa) fun bu ab=>Fp 34 (zT 35 9) rfl Bxm (gY rfl (by simp)) (Ax Afp rfl ab) fun bv ac=>Fp 35 (zT 36 8) rfl Bxm (gY rfl (by simp)) (Ba Lab.f_tests Btv rfl Vi e h22_3) fun bx ad=>Fp 36 (zT 37 7) rfl Bxm (gY rfl (by simp)) (Ax Vi rfl ad) fun bz ae=>Qa 37 (zT 38 6) rfl Bxm (gY rfl (by simp)) (Ah (v:=iV i) h22_5) (Qc 38 (zT 39 5) rfl Bxm (gY rfl (by simp)) (Ch i Bua Um rfl ae (q:=(i:Int)) rfl rfl d) fun c0 af=>Qc 39 (zT 40 4) rfl Bxm (gY rfl (by simp)) (Ba FTest.f_sees Bub rfl Afp af) fun c1 ag=>Qc 40 (zT 41 3) rfl Bxm (gY rfl (by simp)) (Ax Afp rfl ag) fun c2 ah=>Bec 41 (zT 42 2) rfl (gY rfl (by simp)) (Bm (Ol ac ah) Tryz.func25 rfl rfl ⟨rfl,rfl,trivial⟩ ⟨Bxm,?_⟩)))))))))
  refine Qa 42 (zT 43 1) rfl Bxm (gY rfl (by simp)) (Iy rfl) (Cj 43 (zT 44 0) rfl (Bn rfl (by simp) (v:=.bool (!(decide (b.sees=b.sees)))) rfl) (Ec rfl (kk J ?_)))
  refine Cg rfl (by simp) (Al (kk H ?_))
  refine Ag rfl rfl (l_v (Ah (v:=iV i) h22_5) (l_v (Cw (((i+1):Nat):Int)) (Au (iV ((i+1):Nat)) (Ac ?_))))
  refine⟨_,?_,(i+1),rfl,rfl,rfl,rfl,h22_2,h22_3,rfl,(by omega),trivial⟩
  omega
 have N:=lZ0 f
 refine Bx (kk D ?_)
 refine w_q rfl rfl fun ap M=>Au bT (l_k M (Aj (Bxj (Bxn g h)) (Aq (z (rT bT ?_)))))
 rfl
theorem Aan{x:Market}{va vb:Value}(ra:Val ρ va x)(rb:Val ρ vb x):CallsH (CX mn X) 13 #[va,vb] ρ σ (rP ρ σ bT):=by
 refine Bq 121 [4] Tryz.func13 rfl fun Q ad dl=>w_q rfl rfl fun K1 k1=>Arv (Eb (v:=va) rfl fun J=>?_)
 refine Bb (a:=x) ra fun fx N d=>?_
 replace rb:=Val.mono N rb
 refine Arv (Eb (v:=vb) rfl fun K=>?_)
 refine Bb (a:=x) rb fun ac O f=>?_
 replace d:=At.mono O d
 refine Au bF (Ary rfl rfl k1 fun K4 K5 k4 k5=>Arw (Ba Market.f_houses Btt rfl Hw d) fun v6 r6=>Arw (Ax Hw rfl r6) fun v7 r7=>Arw (Ba Market.f_houses Btt rfl Hw f) fun v8 r8=>Arw (Ax Hw rfl r8) fun v9 r9=>Arv (Bw (Xa r7 r9) Bxd ?_))
 refine l_v (Iy rfl) (Av (.bool (!(true))) (Ak (gY rfl (not_t rfl)) (Ba Market.f_marks Btt rfl Hw d) fun e7 av=>Ak (gY rfl (not_t rfl)) (Ax Hw rfl av) fun ed b0=>Ak (gY rfl (not_t rfl)) (Ba Market.f_marks Btt rfl Hw f) fun ep b9=>Ak (gY rfl (not_t rfl)) (Ax Hw rfl b9) fun eu be=>Ae (gY rfl (not_t rfl)) (Bw (Xa b0 be) Bxd ?_)))
 refine Aa (gY rfl (not_t rfl)) (Iy rfl) (l_v (Bn rfl (not_t rfl) (v:=.bool (!(true))) rfl) (Av (.bool (!(true))) (Ak (gY rfl (not_t rfl)) (Ba Market.f_fields Btt rfl Se d) fun ev bf=>Ak (gY rfl (not_t rfl)) (Ax Se rfl bf) fun ew V=>?_)))
 have d1:=Bxo V
 refine Aa (gY rfl (not_t rfl)) (Ci (el:=51) Bue rfl V) (Ak (gY rfl (not_t rfl)) (Ba Market.f_fields Btt rfl Se f) fun ex bg=>Ak (gY rfl (not_t rfl)) (Ax Se rfl bg) fun ey W=>?_)
 have d2:=Bxo W
 refine Aa (gY rfl (not_t rfl)) (Ci (el:=51) Bue rfl W) (Aa (gY rfl (not_t rfl)) (Dg rfl rfl) (l_v (Bn rfl (not_t rfl) (v:=.bool ((x.fields.length:Int) != (x.fields.length:Int))) rfl) (Av (.bool ((x.fields.length:Int) != (x.fields.length:Int))) (Ak (gY rfl (by simp)) (Ba Market.f_sales Btt rfl Qn d) fun ez bh=>Ak (gY rfl (by simp)) (Ax Qn rfl bh) fun f0 Y=>?_))))
 have d3:=Bxo Y
 refine Aa (gY rfl (by simp)) (Ci (el:=54) Buf rfl Y) (Ak (gY rfl (by simp)) (Ba Market.f_sales Btt rfl Qn f) fun f1 bi=>Ak (gY rfl (by simp)) (Ax Qn rfl bi) fun f2 Z=>?_)
 have d4:=Bxo Z
 refine Aa (gY rfl (by simp)) (Ci (el:=54) Buf rfl Z) (Aa (gY rfl (by simp)) (Dg rfl rfl) (l_v (Bn rfl (by simp) (v:=.bool ((x.sales.length:Int) != (x.sales.length:Int))) rfl) (l_k k5 (Cg rfl (by simp) (Al (kk k4 ?_))))))
 refine Asb rfl rfl fun ch ci ah ai=>Au (iV 0) (l_k ai (Ao (Cc (fun mm ee dd ρ' σ'=>∃(i:Nat),(x.fields.length-i)=mm∧[]=dd∧ac=ρ'∧σ=σ'∧ee 2=pV J∧ee 3=pV K∧ee 5=iV i∧(i≤x.fields.length)∧True) (m:=_) ⟨0,rfl,rfl,rfl,rfl,rfl,rfl,rfl,Gn _,trivial⟩ ?_)))
 rintro m28 e28 _ _ _ ⟨i,rfl,rfl,rfl,rfl,h28_2,h28_3,h28_5,p28_0,_⟩
 refine Asb rfl rfl fun cj ck aj ak=>l_v (Ah (v:=iV i) h28_5) (Arw (Ba Market.f_fields Btt rfl Se d h28_2) fun f3 bj=>Arw (Ax Se rfl bj) fun f4 a0=>?_)
 have d5:=Bxo a0
 refine l_v (Ci (el:=51) Bue rfl a0) (l_v (Da rfl rfl) (l_k ak (Bf (t:=decide ((i:Int)<(x.fields.length:Int))) rfl (fun B=>?_) (fun B=>?_))))
 ·have au:=lZ1 B
  refine Al (kk aj ?_)
  refine Ai fun cl L=>Ao (Ai fun cm M=>Pr (De 0 Aob rfl (Ba Market.f_fields Btt rfl Se d h28_2) fun f5 bk=>De 1 Aoe rfl (Ax Se rfl bk) fun f6 bl=>Bu 2 Aof rfl (Ah (v:=iV i) h28_5) ?_))
  obtain⟨b,I⟩:=Ed (xs:=x.fields) (i:=i) (by omega)
  refine De 3 Aog rfl (Ch i Bue Lo rfl bl (q:=(i:Int)) rfl rfl I) fun f7 bm=>De 4 Aok rfl (Ax Lo rfl bm) fun aa u=>De 5 Aol rfl (Ba Market.f_fields Btt rfl Se f h28_3) fun f8 bn=>De 6 Aom rfl (Ax Se rfl bn) fun f9 bo=>Bu 7 Aon rfl (Ah (v:=iV i) h28_5) (De 8 Aqg rfl (Ch i Bue Lo rfl bo (q:=(i:Int)) rfl rfl I) fun fa bp=>De 9 Aoc rfl (Ax Lo rfl bp) fun ab e=>Acq (i:=10) (j:=11) Aod [o1,o1,o1,o1,o1,o1,o1,o1,o1,o1,o0,o1,o0,o0] rfl rfl (by kernel_rfl) rfl rfl rfl rfl ?_ ?_)
  ·refine Ct Xu fun e3=>⟨Bxm,?_⟩
   refine Ww 11 Anr rfl (Ct Xu fun e4=>⟨Bxm,?_⟩)
   refine Ej (Bxk Arz) id (En 12 Ans rfl (Dv (v:=aa) (a:=b) (c:=Aah) Lo rfl rfl u rfl ⟨Bxm,?_⟩))
   refine Aht (a:=b) u fun fy C g=>?_
   replace e:=Val.mono C e
   refine En 13 Ant rfl (Dv (v:=ab) (a:=b) (c:=Aah) Lo rfl rfl e rfl ⟨C,?_⟩)
   refine Ec rfl (kk M ?_)
   refine Nt (a:=b) e fun fz P w=>?_
   replace g:=At.mono P g
   refine w_q rfl rfl fun cn al=>Arw (Ba FField.f_name Btx rfl ty9 g) fun fb a1=>?_
   have d6:b.name.data.toList.length<2^60:=At.slen a1
   refine l_v (Pk ty9 rfl a1) (Arw (Ba FField.f_name Btx rfl ty9 w) fun fc a2=>?_)
   have d7:b.name.data.toList.length<2^60:=At.slen a2
   refine l_v (Pk ty9 rfl a2) (l_v (Aps (p:=b.name.data.toList) (q:=b.name.data.toList) rfl rfl) (Av (.bool (b.name.data.toList != b.name.data.toList)) (Ak (gY rfl (by simp)) (Ba FField.f_house Btx rfl ty3 g) fun fd a3=>?_)))
   have⟨d8,d9⟩:=At.rng a3
   refine Aa (gY rfl (by simp)) (Bc ty3 rfl a3) (Ak (gY rfl (by simp)) (Ba FField.f_house Btx rfl ty3 w) fun fe a4=>?_)
   have⟨da,db⟩:=At.rng a4
   refine Aa (gY rfl (by simp)) (Bc ty3 rfl a4) (Aa (gY rfl (by simp)) (Dg rfl rfl) (l_v (Bn rfl (by simp) (v:=.bool (b.house != b.house)) rfl) (Av (.bool (b.house != b.house)) (Ak (gY rfl (by simp)) (Ba FField.f_grows Btx rfl Mx g) fun ff bq=>Ak (gY rfl (by simp)) (Ax Mx rfl bq) fun ca br=>Ak (gY rfl (by simp)) (Ba FField.f_grows Btx rfl Mx w) fun fg bt=>Ak (gY rfl (by simp)) (Ax Mx rfl bt) fun cb bu=>?_))))
   obtain⟨E,⟨dm,dn⟩,⟨dp,dq⟩⟩:=Span.open_ br
   have ct:ca.cells=[iV b.grows.low,iV b.grows.high].toArray:=by rw[E];rfl
   obtain⟨F,⟨dr,ds⟩,⟨dt,du⟩⟩:=Span.open_ bu
   have cu:cb.cells=[iV b.grows.low,iV b.grows.high].toArray:=by rw[F];rfl
   refine Aa (gY rfl (by simp)) (Aci (ps:=[b.grows.low,b.grows.high]) (qs:=[b.grows.low,b.grows.high]) Buj (by kernel_rfl) (by kernel_rfl) (rfl.trans E) (rfl.trans F) ⟨⟨by decide,_,Bty,rfl,rfl⟩,⟨by decide,_,Bty,rfl,rfl⟩,trivial⟩) (l_v (Bn rfl (by simp) (v:=.bool (!(decide ([b.grows.low,b.grows.high]=[b.grows.low,b.grows.high])))) rfl) (Av (.bool (!(decide ([b.grows.low,b.grows.high]=[b.grows.low,b.grows.high])))) (Ak (gY rfl (by simp)) (Ba FField.f_marks Btx rfl Uo g) fun fh bv=>Ak (gY rfl (by simp)) (Ax Uo rfl bv) fun fi bx=>Ak (gY rfl (by simp)) (Ba FField.f_marks Btx rfl Uo w) fun fj bz=>Ak (gY rfl (by simp)) (Ax Uo rfl bz) fun fk c0=>Ae (gY rfl (by simp)) (Bw (Acw bx c0) Tryz.func50 ?_))))
   refine Aa (gY rfl (by simp)) (Iy rfl) (l_v (Bn rfl (by simp) (v:=.bool (!(true))) rfl) (l_k al (Cg rfl (not_t rfl) (Al (kk L ?_)))))
   refine Ag rfl rfl (l_v (Ah (v:=iV i) h28_5) (l_v (Cw (((i+1):Nat):Int)) (Au (iV ((i+1):Nat)) (Bj (Bxj (Bxn C P)) (Ac ?_)))))
   refine⟨_,?_,(i+1),rfl,rfl,rfl,rfl,h28_2,h28_3,rfl,(by omega),trivial⟩
   omega
  ·refine Ct Xu fun e5=>⟨Bxm,?_⟩
   refine Ww 10 Anr rfl (Ct Xu fun e6=>⟨Bxm,?_⟩)
   refine En 12 Ans rfl (Dv (v:=aa) (a:=b) (c:=Aah) Lo rfl rfl u rfl ⟨Bxm,?_⟩)
   refine Aht (a:=b) u fun g0 D h=>?_
   replace e:=Val.mono D e
   refine En 13 Ant rfl (Dv (v:=ab) (a:=b) (c:=Aah) Lo rfl rfl e rfl ⟨D,?_⟩)
   refine Ec rfl (kk M ?_)
   refine Nt (a:=b) e fun g1 R y=>?_
   replace h:=At.mono R h
   refine w_q rfl rfl fun co am=>Arw (Ba FField.f_name Btx rfl ty9 h) fun fl a5=>?_
   have dc:b.name.data.toList.length<2^60:=At.slen a5
   refine l_v (Pk ty9 rfl a5) (Arw (Ba FField.f_name Btx rfl ty9 y) fun fm a6=>?_)
   have de:b.name.data.toList.length<2^60:=At.slen a6
   refine l_v (Pk ty9 rfl a6) (l_v (Aps (p:=b.name.data.toList) (q:=b.name.data.toList) rfl rfl) (Av (.bool (b.name.data.toList != b.name.data.toList)) (Ak (gY rfl (by simp)) (Ba FField.f_house Btx rfl ty3 h) fun fn a7=>?_)))
   have⟨df,dh⟩:=At.rng a7
   refine Aa (gY rfl (by simp)) (Bc ty3 rfl a7) (Ak (gY rfl (by simp)) (Ba FField.f_house Btx rfl ty3 y) fun fo a8=>?_)
   have⟨di,dj⟩:=At.rng a8
   refine Aa (gY rfl (by simp)) (Bc ty3 rfl a8) (Aa (gY rfl (by simp)) (Dg rfl rfl) (l_v (Bn rfl (by simp) (v:=.bool (b.house != b.house)) rfl) (Av (.bool (b.house != b.house)) (Ak (gY rfl (by simp)) (Ba FField.f_grows Btx rfl Mx h) fun fp c1=>Ak (gY rfl (by simp)) (Ax Mx rfl c1) fun cc c2=>Ak (gY rfl (by simp)) (Ba FField.f_grows Btx rfl Mx y) fun fq c3=>Ak (gY rfl (by simp)) (Ax Mx rfl c3) fun cd c4=>?_))))
   obtain⟨G,⟨dv,dw⟩,⟨dx,dy⟩⟩:=Span.open_ c2
   have cv:cc.cells=[iV b.grows.low,iV b.grows.high].toArray:=by rw[G];rfl
   obtain⟨H,⟨dz,e0⟩,⟨e1,e2⟩⟩:=Span.open_ c4
   have cw:cd.cells=[iV b.grows.low,iV b.grows.high].toArray:=by rw[H];rfl
   refine Aa (gY rfl (by simp)) (Aci (ps:=[b.grows.low,b.grows.high]) (qs:=[b.grows.low,b.grows.high]) Buj (by kernel_rfl) (by kernel_rfl) (rfl.trans G) (rfl.trans H) ⟨⟨by decide,_,Bty,rfl,rfl⟩,⟨by decide,_,Bty,rfl,rfl⟩,trivial⟩) (l_v (Bn rfl (by simp) (v:=.bool (!(decide ([b.grows.low,b.grows.high]=[b.grows.low,b.grows.high])))) rfl) (Av (.bool (!(decide ([b.grows.low,b.grows.high]=[b.grows.low,b.grows.high])))) (Ak (gY rfl (by simp)) (Ba FField.f_marks Btx rfl Uo h) fun fr c5=>Ak (gY rfl (by simp)) (Ax Uo rfl c5) fun fs c6=>Ak (gY rfl (by simp)) (Ba FField.f_marks Btx rfl Uo y) fun ft c7=>Ak (gY rfl (by simp)) (Ax Uo rfl c7) fun fu c8=>Ae (gY rfl (by simp)) (Bw (Acw c6 c8) Tryz.func50 ?_))))
   refine Aa (gY rfl (by simp)) (Iy rfl) (l_v (Bn rfl (by simp) (v:=.bool (!(true))) rfl) (l_k am (Cg rfl (not_t rfl) (Al (kk L ?_)))))
   refine Ag rfl rfl (l_v (Ah (v:=iV i) h28_5) (l_v (Cw (((i+1):Nat):Int)) (Au (iV ((i+1):Nat)) (Bj (Bxj (Bxn D R)) (Ac ?_)))))
   refine⟨_,?_,(i+1),rfl,rfl,rfl,rfl,h28_2,h28_3,rfl,(by omega),trivial⟩
   omega
 have au:=lZ0 B
 refine Bx (kk ah ?_)
 refine Asb rfl rfl fun cp cq an ao=>Au (iV 0) (l_k ao (Ao (Cc (fun mm ee dd ρ' σ'=>∃(k:Nat),(x.sales.length-k)=mm∧[]=dd∧ac=ρ'∧σ=σ'∧ee 2=pV J∧ee 3=pV K∧ee 8=iV k∧(k≤x.sales.length)∧True) (m:=_) ⟨0,rfl,rfl,rfl,rfl,h28_2,h28_3,rfl,Gn _,trivial⟩ ?_)))
 rintro m94 e94 _ _ _ ⟨k,rfl,rfl,rfl,rfl,h94_2,h94_3,h94_8,p94_0,_⟩
 refine Asb rfl rfl fun cr cs ap aq=>l_v (Ah (v:=iV k) h94_8) (Arw (Ba Market.f_sales Btt rfl Qn d h94_2) fun fv c9=>Arw (Ax Qn rfl c9) fun fw a9=>?_)
 have dk:=Bxo a9
 refine l_v (Ci (el:=54) Buf rfl a9) (l_v (Da rfl rfl) (l_k aq (Bf (t:=decide ((k:Int)<(x.sales.length:Int))) rfl (fun z=>?_) (fun z=>?_))))
 ·have ar:=lZ1 z
  refine Al (kk ap ?_)
  refine Ai fun ce ae=>Ao (Ai fun cf af=>Pr (De 0 (zT 1 28) rfl (Ba Market.f_sales Btt rfl Qn d h94_2) fun e8 aw=>De 1 (zT 2 27) rfl (Ax Qn rfl aw) fun e9 ax=>Bu 2 (zT 3 26) rfl (Ah (v:=iV k) h94_8) ?_))
  obtain⟨l,n⟩:=Ed (xs:=x.sales) (i:=k) (by omega)
  refine De 3 (zT 4 25) rfl (Ch k Buf Up rfl ax (q:=(k:Int)) rfl rfl n) fun ea ay=>De 4 (zT 5 24) rfl (Ba Sale.f_grams Buh rfl ty3 ay) fun eb T=>?_
  have⟨cx,cy⟩:=At.rng T
  refine Bu 5 (zT 6 23) rfl (Bc ty3 rfl T) (De 6 (zT 7 22) rfl (Ba Market.f_sales Btt rfl Qn f h94_3) fun ec az=>De 7 (zT 8 21) rfl (Ax Qn rfl az) fun ef b1=>Cj 8 (zT 9 20) rfl (Ah (v:=iV k) h94_8) (Ho 9 (zT 10 19) rfl (Ch k Buf Up rfl b1 (q:=(k:Int)) rfl rfl n) fun eg b2=>Ho 10 (zT 11 18) rfl (Ba Sale.f_grams Buh rfl ty3 b2) fun eh U=>?_))
  have⟨cz,d0⟩:=At.rng U
  refine Cj 11 (zT 12 17) rfl (Bc ty3 rfl U) (Cj 12 (zT 13 16) rfl (Dg rfl rfl) (Cj 13 (zT 14 15) rfl (Ah (v:=.bool (l.grams != l.grams)) rfl) (Fp 14 (zT 15 14) rfl Bxm (gY rfl (by simp)) (Ba Market.f_sales Btt rfl Qn d h94_2) fun ei b3=>Fp 15 (zT 16 13) rfl Bxm (gY rfl (by simp)) (Ax Qn rfl b3) fun ej b4=>Aej 16 (zT 17 12) rfl Bxm (gY rfl (by simp)) (Ah (v:=iV k) h94_8) (Fp 17 (zT 18 11) rfl Bxm (gY rfl (by simp)) (Ch k Buf Up rfl b4 (q:=(k:Int)) rfl rfl n) fun ek b5=>Fp 18 (zT 19 10) rfl Bxm (gY rfl (by simp)) (Ba Sale.f_sellers Buh rfl Vh b5) fun em b6=>Fp 19 (zT 20 9) rfl Bxm (gY rfl (by simp)) (Ax Vh rfl b6) fun en b7=>Fp 20 (zT 21 8) rfl Bxm (gY rfl (by simp)) (Ba Market.f_sales Btt rfl Qn f h94_3) fun eo b8=>Fp 21 (zT 22 7) rfl Bxm (gY rfl (by simp)) (Ax Qn rfl b8) fun eq ba=>Qa 22 (zT 23 6) rfl Bxm (gY rfl (by simp)) (Ah (v:=iV k) h94_8) (Qc 23 (zT 24 5) rfl Bxm (gY rfl (by simp)) (Ch k Buf Up rfl ba (q:=(k:Int)) rfl rfl n) fun er bb=>Qc 24 (zT 25 4) rfl Bxm (gY rfl (by simp)) (Ba Sale.f_sellers Buh rfl Vh bb) fun es bc=>Qc 25 (zT 26 3) rfl Bxm (gY rfl (by simp)) (Ax Vh rfl bc) fun et bd=>Bec 26 (zT 27 2) rfl (gY rfl (by simp)) (Bm (Agv b7 bd) Tryz.func27 rfl rfl ⟨rfl,rfl,trivial⟩ ⟨Bxm,?_⟩))))))
  refine Qa 27 (zT 28 1) rfl Bxm (gY rfl (by simp)) (Iy rfl) (Cj 28 (zT 29 0) rfl (Bn rfl (by simp) (v:=.bool (!(decide (l.sellers=l.sellers)))) rfl) (Ec rfl (kk af ?_)))
  refine Cg rfl (by simp) (Al (kk ae ?_))
  refine Ag rfl rfl (l_v (Ah (v:=iV k) h94_8) (l_v (Cw (((k+1):Nat):Int)) (Au (iV ((k+1):Nat)) (Ac ?_))))
  refine⟨_,?_,(k+1),rfl,rfl,rfl,rfl,h94_2,h94_3,rfl,(by omega),trivial⟩
  omega
 have ar:=lZ0 z
 refine Bx (kk an ?_)
 refine w_q rfl rfl fun cg ag=>Au bT (l_k ag (Aj (Bxj (Bxn N O)) (Aq (ad (rT bT ?_)))))
 rfl
end
section
open Go
theorem Bhv{l:Lab}{m:Market}(h:Gh l≠0):Ng l m≠0∧Ia l m=bs []:=⟨by rw[(Ads h).1];exact h,(Ads h).2⟩
theorem Bhw{l:Lab}{m:Market}(h0:Gh l=0)(h:Cf m≠0):Ng l m≠0∧Ia l m=bs []:=⟨by rw[(Adt h0 h).1];exact h,(Adt h0 h).2⟩
theorem Axu{l:Lab}{m:Market}(hf:Gh l=0)(hg:Cf m=0):Cr (((Bv l m).take ((Bv l m).length-1)).drop 0)=(l,m,0,0):=by
 rw[Afb,←List.dropLast_eq_take];exact Bdb hf hg
theorem Awi{W0:World}{ρ:Ro}{σ:Own}{l:Lab}{m:Market}{vl vm:Value}(hg:GlobE ρ)(hnr:Jp σ)(rl:Val ρ vl l)(rm:Val ρ vm m):Agd (CY W0) 4 4 [vl,vm] ρ σ (rP ρ σ bT):=by
 refine Bjz (n:=102) Tryz.func4 rfl rfl rfl rfl fun Q u cm=>w_q rfl rfl fun K1 k1=>Arv (Eb (v:=vl) rfl fun k2=>?_)
 refine Bb (a:=l) rl fun d6 e c=>?_
 replace rm:=Val.mono e rm
 replace hg:=GlobE.mono e hg
 refine Arv (Eb (v:=vm) rfl fun k3=>?_)
 refine Bb (a:=m) rm fun d7 f d=>?_
 replace hg:=GlobE.mono f hg
 replace c:=At.mono f c
 refine Au bF (Ary rfl rfl k1 fun K4 K5 k4 k5=>Arw (Ax Zu rfl c) fun v6 r6=>Arv (Cm (vs:=[v6]) (Bke r6) Tryz.func5 rfl rfl ⟨rfl,trivial⟩ fun w7 d8 dd ay=>?_))
 obtain⟨R,V,a3,b1⟩:=ay
 replace R:=R.symm;replace V:=V.symm;subst R V b1
 refine Av (.bool a3) (Cn a3 (fun j=>?_) (fun j=>?_))
 ·refine Ap (gN rfl j) (Ap (gN rfl j) (l_v (Bt rfl j (v:=bT) rfl) (l_k k5 (Co rfl rfl (w_q rfl rfl fun K9 k9=>Arv (Bm (Yi (Yh hg.g hnr)) Bwr rfl rfl trivial ?_))))))
  refine Au bT (l_k k9 (Aj (Bxj (Bxn e f)) (Aq (u _ _ _ (rT bT ?_)))))
  rfl
 refine Ak (gY rfl j) (Ax Ln rfl d) fun c3 bj=>Ae (gY rfl j) (Cm (vs:=[c3]) (Bos bj) Tryz.func6 rfl rfl ⟨rfl,trivial⟩ fun d0 d4 d9 au=>?_)
 obtain⟨P,T,a2,az⟩:=au
 replace P:=P.symm;replace T:=T.symm;subst P T az
 refine l_v (Bn rfl j (v:=.bool a2) rfl) (l_k k5 (Bf (t:=a2) rfl (fun aj=>?_) (fun aj=>?_)))
 ·refine w_q rfl rfl fun c8 b2=>Arv (Bm (Yi (Yh hg.g hnr)) Bwr rfl rfl trivial ?_)
  refine Au bT (l_k b2 (Aj (Bxj (Bxn e f)) (Aq (u _ _ _ (rT bT ?_)))))
  rfl
 refine Al (kk k4 ?_)
 refine w_q rfl rfl fun c9 b3=>Arw (Ax Zu rfl c) fun c4 bk=>Arw (Ax Ln rfl d) fun c5 bl=>Arv (Cm (vs:=[c4,c5]) (Bkl hg bk bl) Tryz.func8 rfl rfl ⟨rfl,rfl,trivial⟩ fun d1 d5 da av=>?_)
 obtain⟨k,U,b0⟩:=av
 replace U:=U.symm;subst U b0
 replace hg:=GlobE.mono k hg
 replace c:=At.mono k c
 replace d:=At.mono k d
 refine Av (.tuple #[.string (Ia l m),iV (Ng l m)]) (l_v (Bp (.string (Ia l m))) (l_v (Bp (iV (Ng l m))) (Au (.string (Ia l m)) (Au (iV (Ng l m)) (Ary rfl rfl b3 fun ca cb b4 ag=>Arw (Ax Zu rfl c) fun cu bm=>Arv (Bw (Amc bm) Tryz.func14 ?_))))))
 refine l_v (Dg rfl rfl) (Av (.bool (Gh l != 0)) (Cn (Gh l != 0) (fun b=>?_) (fun b=>?_)))
 ·have hlf:Gh l≠0:=Ls b
  have bg:=Ls b
  refine Ap (gN rfl b) (Ap (gN rfl b) (Ap (gN rfl b) (l_v (Bt rfl b (v:=bT) rfl) (l_k ag (Co rfl rfl (Ai fun cc b5=>?_))))))
  have hpp:=Bhv (m:=m) hlf
  refine Ag rfl rfl (Av (iV (Ng l m)) (l_v (Dg rfl rfl) (Av (.bool ((Ng l m) != 0)) (l_M (.string (Ia l m)) (gY rfl (bne_iff_ne.2 hpp.1)) rfl (Aa (gY rfl (bne_iff_ne.2 hpp.1)) (Od (p:=(Ia l m).data.toList) (q:=([]:List UInt8)) rfl rfl) (l_v (Bt rfl (bne_iff_ne.2 hpp.1) (v:=.bool (((Ia l m).data.toList)==([]:List UInt8))) rfl) (Av (.bool (((Ia l m).data.toList)==([]:List UInt8))) (Ae (gY rfl (by rw[hpp.2];rfl)) (Bm (Yi (Yh hg.g hnr)) Bwr rfl rfl trivial ?_)))))))))
  refine l_v (Bt rfl (by rw[hpp.2];rfl) (v:=bT) rfl) (Au bT (l_k b5 (Aj (Bxj (Bxn (Bxn e f) k)) (Aq (u _ _ _ (rT bT ?_))))))
  rfl
 have hlf:Gh l=0:=Jh b
 have bg:=Jh b
 refine Ak (gY rfl b) (Ax Ln rfl d) fun cv bn=>Ae (gY rfl b) (Bw (Ama bn) Tryz.func15 ?_)
 refine Aa (gY rfl b) (Dg rfl rfl) (l_v (Bn rfl b (v:=.bool (Cf m != 0)) rfl) (l_k ag (Bf (t:=Cf m != 0) rfl (fun w=>?_) (fun w=>?_))))
 ·have hmf:Cf m≠0:=Ls w
  have bh:=Ls w
  refine Ai fun cd b6=>?_
  have hpp:=Bhw hlf hmf
  refine Ag rfl rfl (Av (iV (Ng l m)) (l_v (Dg rfl rfl) (Av (.bool ((Ng l m) != 0)) (l_M (.string (Ia l m)) (gY rfl (bne_iff_ne.2 hpp.1)) rfl (Aa (gY rfl (bne_iff_ne.2 hpp.1)) (Od (p:=(Ia l m).data.toList) (q:=([]:List UInt8)) rfl rfl) (l_v (Bt rfl (bne_iff_ne.2 hpp.1) (v:=.bool (((Ia l m).data.toList)==([]:List UInt8))) rfl) (Av (.bool (((Ia l m).data.toList)==([]:List UInt8))) (Ae (gY rfl (by rw[hpp.2];rfl)) (Bm (Yi (Yh hg.g hnr)) Bwr rfl rfl trivial ?_)))))))))
  refine l_v (Bt rfl (by rw[hpp.2];rfl) (v:=bT) rfl) (Au bT (l_k b6 (Aj (Bxj (Bxn (Bxn e f) k)) (Aq (u _ _ _ (rT bT ?_))))))
  rfl
 have hmf:Cf m=0:=Jh w
 have bh:=Jh w
 refine Al (kk b4 ?_)
 refine Ai fun ce b7=>Ai fun cf b9=>?_
 have hpb:=Axt hlf hmf;have hpc:=Axu hlf hmf;have hne:=Azs.2 (Bhx (l:=l) (m:=m));have htl:=Tz (Ll hlf) (Rg hmf)
 refine Ag rfl rfl (l_v (Ah (v:=iV 0) ((show _=Value.int .i64 (Ng l m) from rfl).trans (congrArg (Value.int .i64) (Akt hlf hmf)))) (l_v (Dg rfl rfl) (Av bF (Aa (gY rfl rfl) (Ah (v:=.string (bs (Bv l m))) ((show _=Value.string (Ia l m) from rfl).trans (congrArg Value.string (Yx hlf hmf)))) (Aa (gY rfl rfl) (Dy Btr (p:=Bv l m) rfl) (Aa (gY rfl rfl) (Ek rfl rfl) (l_v (Bn rfl rfl (v:=.bool (((((Bv l m)).length:Nat):Int)==0)) rfl) (l_k b9 (Bf (t:=((((Bv l m)).length:Nat):Int)==0) rfl (fun O=>?_) (fun O=>?_))))))))))
 ·have bi:=Jr O
  refine w_q rfl rfl fun cg ba=>Au bF (l_k ba (Aj (Bxj (Bxn (Bxn e f) k)) (Aq (u _ _ _ (rT bF ?_)))))
  exfalso;omega
 have bi:=Jq O
 refine Al (kk b7 ?_)
 refine w_q rfl rfl fun ch bb=>l_v (Ah (v:=.string (bs (Bv l m))) ((show _=Value.string (Ia l m) from rfl).trans (congrArg Value.string (Yx hlf hmf)))) (Arv (Cm (vs:=[.string (bs (Bv l m))]) (Azd (t:=Bv l m) hg hnr) Tryz.func10 rfl rfl ⟨rfl,trivial⟩ fun d2 ah db aw=>?_))
 obtain⟨M,W,Y,Z,c6,bo,bp⟩:=aw
 replace W:=W.symm;subst W c6
 replace hg:=GlobE.mono M hg
 replace c:=At.mono M c
 replace d:=At.mono M d
 refine Av (.tuple #[Y,Z,iV ((Cr (Bv l m)).2.2.1),iV ((Cr (Bv l m)).2.2.2)]) (l_v (Bp Y) (l_v (Bp Z) (l_v (Bp (iV ((Cr (Bv l m)).2.2.1))) (l_v (Bp (iV ((Cr (Bv l m)).2.2.2))) (Arv (Ct Aph fun cr=>?_))))))
 refine Arv (Ct Apg fun ct=>?_)
 obtain⟨y,B,ak,a4,⟨cn,co⟩,a5⟩:=Lab.open_ bo
 have al:Y.cells=[y,iV (((Cr (Bv l m)).1).most),B].toArray:=by rw[ak];rfl
 refine Cx rfl (Li (i:=1) (vs:=[y,iV (((Cr (Bv l m)).1).most),B]) (c':=[y,iV (((Cr (Bv l m)).1).most),B]) ⟨_,Ab Buq,rfl⟩ rfl rfl al rfl (Zh ⟨Val.single_l a4,rfl,Val.single_l a5,trivial⟩) rfl nL rfl ?_)
 obtain⟨C,D,E,F,am,a6,a7,a8,a9⟩:=Market.open_ bp
 have an:Z.cells=[C,D,E,F].toArray:=by rw[am];rfl
 refine Cx rfl (Li (i:=0) (vs:=[C,D,E,F]) (c':=[C,D,E,F]) ⟨_,Ab Bum,rfl⟩ rfl rfl an rfl (Zh ⟨Val.single_l a6,Val.single_l a7,Val.single_l a8,Val.single_l a9,trivial⟩) rfl nL rfl ?_)
 refine Au (iV ((Cr (Bv l m)).2.2.1)) (Au (iV ((Cr (Bv l m)).2.2.2)) (Ary rfl rfl bb fun ci cj bc bd=>Av (iV ((Cr (Bv l m)).2.2.2)) (l_v (Dg rfl rfl) (Av (.bool ((Cr (Bv l m)).2.2.2 != 0)) (l_M (iV ((Cr (Bv l m)).2.2.1)) (gY rfl (by rw[hpb];rfl)) rfl (Aa (gY rfl (by rw[hpb];rfl)) (Dg rfl rfl) (l_v (Bn rfl (by rw[hpb];rfl) (v:=.bool ((Cr (Bv l m)).2.2.1 != 0)) rfl) (Av (.bool ((Cr (Bv l m)).2.2.1 != 0)) (Ae (gY rfl (by rw[hpb];rfl)) (Xo (i:=1) (cs:=[y,iV (((Cr (Bv l m)).1).most),B]) (rs:=[]) ⟨_,Btv,rfl⟩ ⟨_,Ab Buq,rfl⟩ rfl rfl rfl rfl ?_))))))))))
 have bq:Val ah (.agg #[y,iV (((Cr (Bv l m)).1).most),B]) (⟨((Cr (Bv l m)).1).kinds,((Cr (Bv l m)).1).most,((Cr (Bv l m)).1).tests⟩:Lab):=Lab.shut (x:=(⟨((Cr (Bv l m)).1).kinds,((Cr (Bv l m)).1).most,((Cr (Bv l m)).1).tests⟩:Lab)) a4 (iC (((Cr (Bv l m)).1).most)) a5
 refine Ak (gY rfl (by rw[hpb];rfl)) (Ax Zu rfl c) fun cw br=>Ae (gY rfl (by rw[hpb];rfl)) (Bw (Aib (x:=l) (Val.cast (show (Cr (Bv l m)).1=l by rw[hpb]) bq) br) Tryz.func12 ?_)
 refine Aa (gY rfl (by rw[hpb];rfl)) (Iy rfl) (l_v (Bn rfl (by rw[hpb];rfl) (v:=.bool (!(true))) rfl) (Av (.bool (!(true))) (Ae (gY rfl (not_t rfl)) (Xo (i:=0) (cs:=[C,D,E,F]) (rs:=[]) ⟨_,Btt,rfl⟩ ⟨_,Ab Bum,rfl⟩ rfl rfl rfl rfl ?_))))
 have bt:Val ah (.agg #[C,D,E,F]) (⟨((Cr (Bv l m)).2.1).houses,((Cr (Bv l m)).2.1).marks,((Cr (Bv l m)).2.1).fields,((Cr (Bv l m)).2.1).sales⟩:Market):=Market.shut (x:=(⟨((Cr (Bv l m)).2.1).houses,((Cr (Bv l m)).2.1).marks,((Cr (Bv l m)).2.1).fields,((Cr (Bv l m)).2.1).sales⟩:Market)) a6 a7 a8 a9
 refine Ak (gY rfl (not_t rfl)) (Ax Ln rfl d) fun cx bu=>Ae (gY rfl (not_t rfl)) (Bw (Aan (x:=m) (Val.cast (show (Cr (Bv l m)).2.1=m by rw[hpb]) bt) bu) Tryz.func13 ?_)
 refine Aa (gY rfl (not_t rfl)) (Iy rfl) (l_v (Bn rfl (not_t rfl) (v:=.bool (!(true))) rfl) (l_k bd (Cg rfl (not_t rfl) (Al (kk bc ?_)))))
 refine w_q rfl rfl fun ck be=>l_v (Ah (v:=.string (bs (Bv l m))) ((show _=Value.string (Ia l m) from rfl).trans (congrArg Value.string (Yx hlf hmf)))) (l_v (Ah (v:=.string (bs (Bv l m))) ((show _=Value.string (Ia l m) from rfl).trans (congrArg Value.string (Yx hlf hmf)))) (l_v (Dy Btr (p:=Bv l m) rfl) (l_v (Ou rfl rfl (z:=(((((Bv l m)).length-1):Nat):Int)) (Bo (by omega) (by omega) (by omega))) (l_v (Ui (p:=Bv l m) (l:=0) (h:=((Bv l m)).length-1) Btr rfl (.inl ⟨rfl,rfl⟩) (.inr ⟨_,rfl,rfl⟩) (by omega) (by omega)) (Arv (Cm (vs:=[.string (bs ((((Bv l m)).take (((Bv l m)).length-1)).drop 0))]) (Azd (t:=(((Bv l m)).take (((Bv l m)).length-1)).drop 0) hg (Gb (Gb hnr))) Tryz.func10 rfl rfl ⟨rfl,trivial⟩ fun d3 ai dc ax=>?_))))))
 obtain⟨N,X,a0,a1,c7,bv,bx⟩:=ax
 replace X:=X.symm;subst X c7
 replace hg:=GlobE.mono N hg
 replace c:=At.mono N c
 replace d:=At.mono N d
 refine Av (.tuple #[a0,a1,iV ((Cr ((((Bv l m)).take (((Bv l m)).length-1)).drop 0)).2.2.1),iV ((Cr ((((Bv l m)).take (((Bv l m)).length-1)).drop 0)).2.2.2)]) (l_v (Bp a0) (l_v (Bp a1) (l_v (Bp (iV ((Cr ((((Bv l m)).take (((Bv l m)).length-1)).drop 0)).2.2.1))) (l_v (Bp (iV ((Cr ((((Bv l m)).take (((Bv l m)).length-1)).drop 0)).2.2.2))) ?_))))
 obtain⟨G,H,ao,aa,⟨cp,cq⟩,ab⟩:=Lab.open_ bv
 have ap:a0.cells=[G,iV (((Cr ((((Bv l m)).take (((Bv l m)).length-1)).drop 0)).1).most),H].toArray:=by rw[ao];rfl
 refine Cx rfl (Li (i:=1) (vs:=[G,iV (((Cr ((((Bv l m)).take (((Bv l m)).length-1)).drop 0)).1).most),H]) (c':=[G,iV (((Cr ((((Bv l m)).take (((Bv l m)).length-1)).drop 0)).1).most),H]) ⟨_,Ab Buq,rfl⟩ rfl rfl ap rfl (Zh ⟨Val.single_l aa,rfl,Val.single_l ab,trivial⟩) rfl nL rfl ?_)
 obtain⟨I,J,K,L,aq,ac,ad,ae,af⟩:=Market.open_ bx
 have ar:a1.cells=[I,J,K,L].toArray:=by rw[aq];rfl
 refine Cx rfl (Li (i:=0) (vs:=[I,J,K,L]) (c':=[I,J,K,L]) ⟨_,Ab Bum,rfl⟩ rfl rfl ar rfl (Zh ⟨Val.single_l ac,Val.single_l ad,Val.single_l ae,Val.single_l af,trivial⟩) rfl nL rfl ?_)
 refine Au (iV ((Cr ((((Bv l m)).take (((Bv l m)).length-1)).drop 0)).2.2.1)) (Au (iV ((Cr ((((Bv l m)).take (((Bv l m)).length-1)).drop 0)).2.2.2)) (Arx rfl rfl be fun cl bf=>Av (iV ((Cr ((((Bv l m)).take (((Bv l m)).length-1)).drop 0)).2.2.2)) (l_v (Ek rfl rfl) (Av (.bool ((Cr ((((Bv l m)).take (((Bv l m)).length-1)).drop 0)).2.2.2==0)) (l_M (iV ((Cr ((((Bv l m)).take (((Bv l m)).length-1)).drop 0)).2.2.1)) (gY rfl (by rw[hpc];rfl)) rfl (Aa (gY rfl (by rw[hpc];rfl)) (Ek rfl rfl) (l_v (Bt rfl (by rw[hpc];rfl) (v:=.bool ((Cr ((((Bv l m)).take (((Bv l m)).length-1)).drop 0)).2.2.1==0)) rfl) (Av (.bool ((Cr ((((Bv l m)).take (((Bv l m)).length-1)).drop 0)).2.2.1==0)) (Ae (gY rfl (by rw[hpc];rfl)) (Xo (i:=1) (cs:=[G,iV (((Cr ((((Bv l m)).take (((Bv l m)).length-1)).drop 0)).1).most),H]) (rs:=[]) ⟨_,Btv,rfl⟩ ⟨_,Ab Buq,rfl⟩ rfl rfl rfl rfl ?_))))))))))
 have bz:Val ai (.agg #[G,iV (((Cr ((((Bv l m)).take (((Bv l m)).length-1)).drop 0)).1).most),H]) (⟨((Cr ((((Bv l m)).take (((Bv l m)).length-1)).drop 0)).1).kinds,((Cr ((((Bv l m)).take (((Bv l m)).length-1)).drop 0)).1).most,((Cr ((((Bv l m)).take (((Bv l m)).length-1)).drop 0)).1).tests⟩:Lab):=Lab.shut (x:=(⟨((Cr ((((Bv l m)).take (((Bv l m)).length-1)).drop 0)).1).kinds,((Cr ((((Bv l m)).take (((Bv l m)).length-1)).drop 0)).1).most,((Cr ((((Bv l m)).take (((Bv l m)).length-1)).drop 0)).1).tests⟩:Lab)) aa (iC (((Cr ((((Bv l m)).take (((Bv l m)).length-1)).drop 0)).1).most)) ab
 refine Ak (gY rfl (by rw[hpc];rfl)) (Ax Zu rfl c) fun cy c0=>Ae (gY rfl (by rw[hpc];rfl)) (Bw (Aib (x:=l) (Val.cast (show (Cr (((Bv l m).take ((Bv l m).length-1)).drop 0)).1=l by rw[hpc]) bz) c0) Tryz.func12 ?_)
 refine l_v (Bt rfl (by rw[hpc];rfl) (v:=bT) rfl) (Av bT (Ae (gY rfl rfl) (Xo (i:=0) (cs:=[I,J,K,L]) (rs:=[]) ⟨_,Btt,rfl⟩ ⟨_,Ab Bum,rfl⟩ rfl rfl rfl rfl ?_)))
 have c1:Val ai (.agg #[I,J,K,L]) (⟨((Cr ((((Bv l m)).take (((Bv l m)).length-1)).drop 0)).2.1).houses,((Cr ((((Bv l m)).take (((Bv l m)).length-1)).drop 0)).2.1).marks,((Cr ((((Bv l m)).take (((Bv l m)).length-1)).drop 0)).2.1).fields,((Cr ((((Bv l m)).take (((Bv l m)).length-1)).drop 0)).2.1).sales⟩:Market):=Market.shut (x:=(⟨((Cr ((((Bv l m)).take (((Bv l m)).length-1)).drop 0)).2.1).houses,((Cr ((((Bv l m)).take (((Bv l m)).length-1)).drop 0)).2.1).marks,((Cr ((((Bv l m)).take (((Bv l m)).length-1)).drop 0)).2.1).fields,((Cr ((((Bv l m)).take (((Bv l m)).length-1)).drop 0)).2.1).sales⟩:Market)) ac ad ae af
 refine Ak (gY rfl rfl) (Ax Ln rfl d) fun cz c2=>Ae (gY rfl rfl) (Bw (Aan (x:=m) (Val.cast (show (Cr (((Bv l m).take ((Bv l m).length-1)).drop 0)).2.1=m by rw[hpc]) c1) c2) Tryz.func13 ?_)
 refine l_v (Bt rfl rfl (v:=bT) rfl) (Av bT (Ae (gY rfl rfl) (Bm (Yi (Yh hg.g (Gb (Gb hnr)))) Bwr rfl rfl trivial ?_)))
 refine l_v (Bt rfl rfl (v:=bT) rfl) (Au bT (l_k bf (Aj Bxi (Aj Bxi (Aj (Bxj (Bxn (Bxn (Bxn (Bxn e f) k) M) N)) (Aq (u _ _ _ (rT bT ?_))))))))
 rfl
end
section
open Go Go.WideShapes Go.ChangeShapes Go.RowKit Go.Conc
def Ahj:List (String×DataW Unit):=[("math/bits.deBruijn32tab",Rows.laid_math_bits_deBruijn32tab),("math/bits.deBruijn64tab",Rows.laid_math_bits_deBruijn64tab),("internal/strconv.uint64pow10",Rows.laid_internal_strconv_uint64pow10),("unicode/utf8.acceptRanges",Rows.laid_unicode_utf8_acceptRanges),("errors.errorType",Rows.laid_errors_errorType),("strconv.ErrRange",Rows.laid_strconv_ErrRange),("strconv.ErrSyntax",Rows.laid_strconv_ErrSyntax),("crocus/fake.can",Rows.laid_crocus_fake_can),("crocus/fake.over",Rows.laid_crocus_fake_over),("crocus/fake.views",Rows.laid_crocus_fake_views),("unicode/utf8.first",Rows.laid_unicode_utf8_first)]
def Blu:List (String×DataW Unit):=[("math/bits.deBruijn32tab",Rows.laid_math_bits_deBruijn32tab),("math/bits.deBruijn64tab",Rows.laid_math_bits_deBruijn64tab),("internal/strconv.uint64pow10",Rows.laid_internal_strconv_uint64pow10),("unicode/utf8.acceptRanges",Rows.laid_unicode_utf8_acceptRanges),("strconv.ErrRange",Rows.laid_strconv_ErrRange),("strconv.ErrSyntax",Rows.laid_strconv_ErrSyntax),("crocus/fake.over",Rows.laid_crocus_fake_over),("crocus/fake.views",Rows.laid_crocus_fake_views),("unicode/utf8.first",Rows.laid_unicode_utf8_first)]
theorem gViews:Tryz.prog.globalNamed "crocus/fake.views" = some 0:=by kernel_rfl
theorem tViews:(Tryz.prog.globals[0]?).map (·.type)=some 91:=by kernel_rfl
theorem gPow:Tryz.prog.globalNamed "internal/strconv.uint64pow10" = some 5:=by kernel_rfl
theorem tPow:(Tryz.prog.globals[5]?).map (·.type)=some 274:=by kernel_rfl
theorem gEt:Tryz.prog.globalNamed "errors.errorType" = some 1:=by kernel_rfl
theorem Ake{P:Program}{W:World}{a:String×DataW Unit}{l:List (String×DataW Unit)}(h:laidMet P (a::l) W):laidMet P [a] W:=by
 obtain⟨ps,⟨g,t,cs,c,p,q,d,e,f,i,j,rfl⟩,hn,hc⟩:=h
 exact⟨MemPlace.row ⟨g,0,none⟩ cs.size++p++[],⟨g,t,cs,c,p,[],d,e,f,i,rfl,rfl⟩,by rw[Un];exact(Amq.1 hn).1,fun b off hb=>hc b off (Sf _ (by rw[Un]at hb;exact hb))⟩
theorem Ri{P:Program}{W:World}{a:String×DataW Unit}{l:List (String×DataW Unit)}(h:laidMet P (a::l) W):laidMet P l W:=by
 obtain⟨ps,⟨g,t,cs,d,p,q,e,f,i,j,c,rfl⟩,hn,hc⟩:=h
 exact⟨q,c,(Amq.1 hn).2.1,fun b off hb=>hc b off (Po _ hb)⟩
/-- What a variable of cells of one kind holds. -/
theorem Alg{H:Type}{enc:TypeId×Value→H}{W:World}{held:Bool}{n:Nat}{t:TypeId}(hc:Tryz.prog.cellsOf t=1){cs:List Value}{xs:List (DataW H×List MemPlace)}{vs:List Value}{ds:List (DataW H)}(hlen:cs.length=xs.length)(hv:vs.length=xs.length)
  (hf:∀i,i<xs.length→DataW.trod enc Tryz.prog W 0 (fun _=>true) held n t ((cs.drop (i*Tryz.prog.cellsOf t)).take (Tryz.prog.cellsOf t))=xs[i]?) (e:xs.map (·.1)=ds)
  (h1:∀(v d:_) (x:DataW H×List MemPlace) (i:Nat),DataW.trod enc Tryz.prog W 0 (fun _=>true) held n t [v]=some x→x.1=d→ds[i]?=some d→vs[i]?=some v):cs=vs:=by
 apply Aue
 intro i
 rcases Rd i xs.length with hi|hi
 ·have h:=hf i hi
  rw[hc,Ajj]at h
  have hd:(cs.drop i).take 1=[cs[i]'(by omega)]:=by rw[Azk (by omega)];rfl
  rw[hd,Sc hi]at h
  rw[Sc (by omega)]
  exact(h1 _ _ _ i h rfl (by rw[←e,Tp,Sc hi];rfl)).symm
 ·rw[Vy (by omega),Vy (by omega)]
theorem Bbi{s:ByteArray}{l:List UInt8}(h:s.data.toList=l):s=bs l:=by rw[←h];rfl
def powN:List Int:=[1,10,100,1000,10000,100000,1000000,10000000,100000000,1000000000,10000000000,100000000000,1000000000000,10000000000000,100000000000000,1000000000000000,10000000000000000,100000000000000000,1000000000000000000,10000000000000000000]
theorem Bmd:powC=powN.map (Value.int .u64):=by kernel_rfl
theorem Auu{W:World}(h:laidMet Tryz.prog [("internal/strconv.uint64pow10",Rows.laid_internal_strconv_uint64pow10)] W):∃t fz,roW W 5=some (.cells powC.toArray t fz):=by
 obtain⟨ps,⟨g,t,cs,l,p,q,hg,ht,hv,hd,_,_⟩,_,_⟩:=h
 obtain rfl:=Option.some.inj (gPow.symm.trans hg)
 obtain rfl:=Option.some.inj (tPow.symm.trans ht)
 obtain⟨t',fz,hh⟩:=Zw hg hv
 obtain⟨xs,m,_,k,hcl,hl,hf⟩:=DataW.trod_array Tryz.underlying274 hd
 have a:xs.map (·.1)=powN.map fun z=>.lit (.int .u64 z):=by
  have:=congrArg Prod.fst k
  simp only[Rows.laid_internal_strconv_uint64pow10,DataW.agg.injEq]at this
  exact this.symm
 rw[show Tryz.prog.cellsOf 274=20 from by kernel_rfl]at hcl
 have hcs:cs.toList=powN.map (Value.int .u64):=by
  refine Alg (by kernel_rfl) (hcl.trans hl.symm) (by rw[hl];rfl) (fun i hi=>hf i (by rw[hl]at hi;exact hi)) a ?_
  intro v d x i hx hd' hi
  obtain⟨z,c,e,_⟩:=DataW.trod_int Bur hx
  rw[Tp]at hi ⊢
  cases hz:powN[i]? with
  | none=>rw[hz]at hi;cases hi
  | some y =>
   rw[hz]at hi
   subst e
   have b:(DataW.lit (.int .u64 z):DataW Unit)=d:=hd'
   rw[←b]at hi
   have f:y=z:=by simpa using hi
   have j:v = .int .u64 z:=by simpa using c
   rw[j,f];rfl
 have:cs=powC.toArray:=by apply Array.ext';rw[hcs,Bmd]
 exact⟨t',fz,by rw[←this];exact Vz hh⟩
theorem Amw{W:World}(h:laidMet Tryz.prog [("crocus/fake.views",Rows.laid_crocus_fake_views)] W):∃t fz,roW W 0=some (.cells #[.string (bs Qx),.string (bs Mq),.string (bs wNo)] t fz):=by
 obtain⟨ps,⟨g,t,cs,l,p,q,hg,ht,hv,hd,_,_⟩,_,_⟩:=h
 obtain rfl:=Option.some.inj (gViews.symm.trans hg)
 obtain rfl:=Option.some.inj (tViews.symm.trans ht)
 obtain⟨t',fz,hh⟩:=Zw hg hv
 obtain⟨xs,m,_,k,hcl,hl,hf⟩:=DataW.trod_array Bwh hd
 have a:xs.map (·.1)=[Qx,Mq,wNo].map fun z=>.lit (.string z):=by
  have:=congrArg Prod.fst k
  simp only[Rows.laid_crocus_fake_views,DataW.agg.injEq]at this
  exact this.symm
 rw[show Tryz.prog.cellsOf 91=3 from by kernel_rfl]at hcl
 have hcs:cs.toList=[Qx,Mq,wNo].map fun z=>Value.string (bs z):=by
  refine Alg (by kernel_rfl) (hcl.trans hl.symm) (by rw[hl];rfl) (fun i hi=>hf i (by rw[hl]at hi;exact hi)) a ?_
  intro v d x i hx hd' hi
  obtain⟨z,c,e,_⟩:=DataW.trod_string Btr hx
  rw[Tp]at hi ⊢
  cases hz:([Qx,Mq,wNo]:List (List UInt8))[i]? with
  | none=>rw[hz]at hi;cases hi
  | some y =>
   rw[hz]at hi
   subst e
   have b:(DataW.lit (.string z.data.toList):DataW Unit)=d:=hd'
   rw[←b]at hi
   have f:y=z.data.toList:=by simpa using hi
   have j:v = .string z:=by simpa using c
   rw[j,Bbi f.symm];rfl
 have:cs = #[.string (bs Qx),.string (bs Mq),.string (bs wNo)]:=by apply Array.ext';exact hcs
 exact⟨t',fz,by rw[←this];exact Vz hh⟩
def ofP(_:Program)(t:TypeId):TypeId:=t
abbrev Bst:TypeId:=ofP Tryz.prog 85
abbrev Boe:TypeId:=ofP Tryz.prog 218
theorem Bcy:(List.range Tryz.prog.types.size).all (fun ty=>!Tryz.prog.rowNamed ty [101,114,114,111,114]||ty==Bst)=true:=by kernel_rfl
/-- The cells of a plain table. -/
def Bto:DataW Unit→List Value
 | .agg ds=>ds.map fun d=>match d with | .lit (.int k z)=>.int k z|_=>undef
 | _=>[]
/-- The variables as the text lays them,the great table of utf8 with them. -/
noncomputable def doorE(os:Os):World:={World.doorLaid Tryz.prog 2000 os with heap:=(World.doorLaid Tryz.prog 2000 os).heap.setIfInBounds (gno 10) (.cells (Bto Go.Pinned.utf8First).toArray (ofP Tryz.prog 306) (0,0))}
theorem Awq(os:Os)(args:Array Value):laidMetH Tryz.prog Ahj ((doorE os).forCall (fun _ _=>0) ⟨#[],args,[]⟩).memory :=
 laidMetH_of_parts3 (fuel:=8) (laidMet_of_run' 8 (by kernel_rfl) (by kernel_rfl)) (by kernel_rfl) (by kernel_rfl)
def Awb(H:Type)(enc:TypeId×Value→H)(s:ChangeSpec)(fn:Func):World→Array Value→Prop :=
 fun w args=>(s.pre enc Tryz.prog fn [] false w args∧laidMetH Tryz.prog Ahj w)∧sizedMet enc Tryz.prog fn (OpenSpec.ofChange s) false w args
theorem Ame{W:World}(h:handlesMet Tryz.prog [("errors.errorType",Rows.laid_errors_errorType)] W):∃t fz,roW W 1=some (.cells #[.iface 218 (.agg #[typeHandle Tryz.prog 85])] t fz):=by
 obtain⟨k,u,ty,e,f,g,i,j⟩:=h _ (Qp.2 rfl)
 have b:k=[101,114,114,111,114]:=(Option.some.inj e).symm
 subst b
 have c:u=Boe:=(Option.some.inj ((show (Tryz.prog.cutTypes.find? (·.1 == "internal/reflectlite.rtype")).map (·.2)=some Boe by kernel_rfl).symm.trans f)).symm
 subst c
 have a:=Rh.1 Bcy ty (Amr.2 g)
 rw[i]at a
 have d:ty=Bst:=by simpa using a
 subst d
 obtain⟨t',fz,hh⟩:=Zw gEt j
 exact⟨t',fz,Vz hh⟩
theorem Akp{W:World}(h:W.ShapedOpen Tryz.prog):∃(z:Int) (t:TypeId) (fz:Nat×Nat),roW W 4=some (.cells #[.int .i64 z] t fz)∧I64 z:=by
 obtain⟨cs,b,c,d⟩:=h.1 (gno 4) #[.int .i64 0] 3 (lZ1 (by kernel_rfl)) (by kernel_rfl)
 obtain⟨ts,e,_,f⟩:=d (by kernel_rfl)
 have a:ts=[3]:=Option.some.inj (e.symm.trans (by kernel_rfl))
 subst a
 obtain⟨v,hv⟩:∃v,cs = #[v]:=by
  match cs,c with
  | ⟨[v]⟩,_=>exact⟨v,rfl⟩
 subst hv
 obtain⟨u,hu,hc⟩:=f 0 v rfl
 obtain rfl:3=u:=by simpa using hu
 unfold Cell.ok at hc
 rw[Bty]at hc
 cases v with
 | int k n =>
  obtain⟨rfl,hn⟩:k = .i64∧IntKind.i64.has n:=hc
  refine⟨n,3,(0,0),Vz b,?_⟩
  simp[IntKind.has,IntKind.min,IntKind.max,IntKind.signed,IntKind.bits]at hn
  constructor<;>omega
 | _=>exact absurd hc id
theorem Aiy{W:World}(hs:W.ShapedOpen Tryz.prog)(h:laidMetH Tryz.prog Ahj W):GlobE (roW W):=by
 have h':laidMet Tryz.prog Blu W∧handlesMet Tryz.prog [("errors.errorType",Rows.laid_errors_errorType),("crocus/fake.can",Rows.laid_crocus_fake_can)] W:=h
 have a:=Ri (Ri h'.1);have b:=Ri (Ri (Ri (Ri a)))
 have c:laidMetH Tryz.prog Bnw W:=⟨Ake b,fun x hx=>h'.2 x (by rw[Qp.1 hx];exact lZ5 _ mC)⟩
 exact⟨Xc c,Amw (Ake (Ri b)),Auu (Ake a),Akp hs,Ame fun x hx=>h'.2 x (by rw[Qp.1 hx];exact Afa ..)⟩
/-- As law_liftY,with eleven variables laid. -/
theorem Auh{f:FuncId}{r:Nat}{fn:Func}{s:ChangeSpec}(os:Os)(started:os.Started)(H:Type)(enc:TypeId×Value→H)(hfn:Tryz.prog.funcs[f]?=some fn)(hvars:s.vars=[])(hres:fn.resultTypes = #[4])(hi:Tryz.prog.inits.idxOf? f=none)
  (hts:∀t∈fn.params.toList,Tryz.prog.readableRec t=true∧t<Tryz.prog.types.size)
  (hspec:∀ds:List (DataW H),ds.length=fn.params.toList.length→s.fn H ds={results:=[.lit (.bool true)],args:=ds})
  (witness:∃(w:World) (tape:Tape) (i:Input),w.os=os∧(w.forCall tape i).Shaped Tryz.prog∧i.vars=[]∧Input.okWide Tryz.prog (w.forCall tape i) .any w.heap.size f i∧Awb H enc s fn (w.forCall tape i).memory i.args∧({}:Assume).holds Tryz.prog (lone (Frame.enter Tryz.prog f i.args .normal) [] (w.forCall tape i)))
  (walk:∀(W:World) (args:List Value) (ds:List (DataW H)) (ps:List MemPlace),(∀(j:Nat) t v,fn.params[j]?=some t→args.toArray[j]?=some v→∃b,Value.okWide Tryz.prog W .any b t v)→DataW.TrodAll enc Tryz.prog W 0 (fun _=>true) true fn.params.toList args ds ps →
   (DataW.weightsEach Tryz.prog fn.params.toList ds).all (·≤reachBytes)=true→GlobE (roW W)→Agd (CY W) f r args (roW W) [] (fun w ρ' σ'=>ρ'=roW W∧σ'=[]∧w = .bool true)) :
  ReturnsInLeavingWide {} Tryz.checked os f .any (Awb H enc s fn) (s.post enc Tryz.prog fn false true false false):=by
 refine returnsInLeavingWide_of_good (C:=Tryz.checked) Art started witness ?_
 intro w tape i _ hsh _ hok y _
 obtain⟨_,_,_,fn',n,_,_,_,_,z⟩:=hok
 have e:fn'=fn:=Option.some.inj (n.symm.trans hfn)
 subst e
 obtain⟨⟨⟨ds,gs,D,hw,_⟩,hL⟩,hz⟩:=y
 have hsz:=hz.weights hw
 have hw':=DataW.Whole.of_heap (w':=w.forCall tape i) (by rfl) hw
 have hL':=hL.of_heap (w':=w.forCall tape i) (by rfl)
 generalize w.forCall tape i=W at *
 obtain⟨p,q,hA,hV,hb,hnf,hnd⟩:=hw'
 have hV':DataW.TrodVars enc Tryz.prog W (fun _=>true) [] gs q:=by rw[←hvars];exact hV
 obtain⟨rfl,rfl⟩:=trodVars_none hV'
 simp only[Un]at hb
 replace hb:=hb.symm
 subst hb
 have hvt:s.plain.varTypes Tryz.prog=[]:=by unfold DataSpec.varTypes ChangeSpec.plain;rw[hvars];rfl
 rw[show (OpenSpec.ofChange s).bare.plain.varTypes Tryz.prog=[] from hvt,Un,Un]at hsz
 obtain⟨E,u⟩:=Sb hA
 have g:i.args.toList.toArray=i.args:=by simp
 have m:=walk W i.args.toList ds p (fun j t v c a=>⟨_,z j t v c (by rw[g]at a;exact a)⟩) hA hsz (Aiy hsh hL')
 have d:DataW.Whole enc Tryz.prog fn'.params.toList s.vars false W i.args.toList ds [] p:=⟨p,[],hA,hV,by simp,hnf,hnd⟩
 have hlt:∀x∈p,x.block<W.heap.size:=fun x hx=>by simpa using d.lt x hx
 have hgo:=Ark (W0:=W) (Pst:=fun v W'=>s.post enc Tryz.prog fn' false true false false W i.args v W') m hi fun v ρ' σ' ⟨_,hσ,hv⟩=>⟨hσ,fun W' hbw=>by
  subst hv
  have er:(s.fn H (ds++[]))={results:=[.lit (.bool true)],args:=ds}:=by rw[Un];exact hspec ds u
  refine⟨ds,[],p,[],p,[],d,?_,?_,?_,hbw.frame _,fun h=>by cases h⟩
  ·rw[er,hres];exact trodAll_mk1 (shut_bool Bvm true)
  ·rw[er];exact Oo hbw hts hlt hA
  ·rw[er,hvars];rfl⟩
 rw[g]at hgo
 obtain⟨M,B,o,w',t',c,a,k,l⟩:=Ari hgo Anl
 exact⟨M,B,o,w',t',c,a,k,l.mono fun v hp=>ChangeSpec.post_blind hp⟩
end
section
open Go Go.WideShapes Go.ChangeShapes Go.RowKit Go.Conc
set_option maxRecDepth 100000
theorem Agx(os:Os)(started:os.Started)(H:Type)(enc:TypeId×Value→H):ReturnsInLeavingWide {} Tryz.checked os 4 .any (Awb H enc Rows.fakeBackSpec Tryz.f4) (Rows.fakeBackSpec.post enc Tryz.prog Tryz.f4 false true false false):=by
 refine Auh (r:=4) os started H enc Tryz.func4 rfl rfl (by kernel_rfl) (by decide) (fun ds hd=>?_)
  (ChangeSpec.witness_shaped (enc:=enc) (C:=Tryz.checked) (os:=os) (X:=fun w _=>laidMetH Tryz.prog Ahj w) false (doorE os) #[.agg #[.slice none 0 0,.int .i64 0,.slice none 0 0],.agg #[.slice none 0 0,.slice none 0 0,.slice none 0 0,.slice none 0 0]] 8 rfl (World.shaped_of_RefB (by kernel_rfl) (by kernel_rfl)) (by kernel_rfl) (by kernel_rfl) (by kernel_rfl) (Awq os _)) ?_
 ·match ds,hd with
  | [d1,d2],_=>rfl
 ·intro W a ds ps hv hA hw hg
  obtain⟨b,d⟩:=Sb hA
  match a,b,ds,d,hA with
  | [v1,v2],_,[d1,d2],_,⟨p1,q1,h1,⟨p2,q2,h2,_,_⟩,_⟩ =>
   obtain⟨k,e⟩:=hv 0 25 v1 rfl rfl
   obtain⟨l,f⟩:=hv 1 29 v2 rfl rfl
   obtain⟨m,g⟩:=Ahu Brw rfl Btv e h1 (Aln hw (j:=0) rfl rfl)
   obtain⟨n,i⟩:=Ahu Brv rfl Btt f h2 (Aln hw (j:=1) rfl rfl)
   exact Awi hg (fun c vs h=>by cases h) g i
theorem Aqq:Rows.FakeBackSaid :=
 OpenClaim.holds_of_wide_leaving 4 Tryz.f4 rfl rfl rfl rfl rfl rfl rfl ⟨rfl,rfl,rfl,rfl,rfl⟩ rfl rfl rfl rfl rfl (by kernel_rfl) Tryz.func4 (by kernel_rfl)
  (lZ1 (by kernel_rfl)) (by unfold Func.isWrapper;first|(rw[if_pos (by decide +kernel)];kernel_rfl)|(rw[if_neg (by decide +kernel)];exact⟨rfl,rfl⟩))
  (fun os a H enc _=>Agx os a H enc)
theorem fakeBack_holds:Rows.FakeBackCardSaid :=
 Bdp .later [.data,.data,.data,.data,.handle,.sentinel,.sentinel,.funcs,.data,.widerDeep,.pinned] true (true,"f62f098b50a9b0519b9ff2612b7c8f54850af9b60849ba474db4661544edbe2d") true Aqq (by kernel_rfl) fakeBack_row_tie rfl ⟨rfl,rfl⟩ (by kernel_rfl) rfl
  (fun f fn hf hfn=>by
   obtain rfl:f=4:=Option.some.inj ((show Tryz.prog.funcNamed "crocus/crocuslaw08.FakeBack" = some 4 by kernel_rfl).symm.trans hf) |>.symm
   obtain rfl:fn=Tryz.f4:=(Option.some.inj (Tryz.func4.symm.trans hfn)).symm
   exact⟨by kernel_rfl,fun j t ht=>by
    have a:t=25∨t=29:=by
     match j,ht with
     | 0,h=>exact .inl (Option.some.inj h).symm
     | 1,h=>exact .inr ((Option.some.inj h).symm)
    rcases a with rfl|rfl
    ·exact(show Tryz.prog.wantsStandIn 25=false by kernel_rfl)
    ·exact(show Tryz.prog.wantsStandIn 29=false by kernel_rfl)⟩)
  (by kernel_rfl)
end
end Go.Proofs.YtninnkechkolnaaGreatDoor
